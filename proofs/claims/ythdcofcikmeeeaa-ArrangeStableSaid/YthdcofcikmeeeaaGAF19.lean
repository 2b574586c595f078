-- written by wip/gen.py, a program of this session
import Derived.Test.YthdcofcikmeeeaaGA0
namespace Go.Proofs.Ythdcofcikmeeeaa.GA
open Go.RowKit Go.Proofs.Ythdcofcikmeeeaa Go.Proofs.Ythdcofcikmeeeaa.MW Go.Proofs.YthdcofcikmeeeaaW.PrintWords Go.Proofs.YthdcofcikmeeeaaW.PrintLast Go.Proofs.YthdcofcikmeeeaaW.PrintMore
attribute [local go_sem] max2_int min2_int max_two min_two
set_option linter.unusedVariables false
set_option linter.unusedSimpArgs false

/-! ### toponymref06_step: function 19 -/
def toponymref06_step.f (a0 : Int) : Option (Int) := if a0 = 0 then (some 8) else (if a0 = 8 then (some 194) else (if a0 = 202 then (some 18) else (if a0 = 220 then (some 10) else (some 1))))
set_option maxHeartbeats 8000000 in
set_option maxRecDepth 100000 in
theorem toponymref06_step.calls (a0 : Int) (r : Int) (w : World) (h : toponymref06_step.f a0 = some r) :
    Calls Try.prog 19 #[.int .i64 a0] w (fun e w' => e = .returned (.int .i64 r) ∧ Drawn0 w w') := by
  have HH := Aside0.mk (show (if a0 = 0 then (some 8) else (if a0 = 8 then (some 194) else (if a0 = 202 then (some 18) else (if a0 = 220 then (some 10) else (some 1))))) = some r from h)
  clear h
  go_enter Try.func19, Try.ntmps19
  by_cases c1 : a0 = 0
  · have H := HH.out
    rw [if_pos c1] at H
    replace HH := Aside0.mk H
    clear H
    have hk2 : (a0 == 0) = true := beq_iff_eq.mpr c1
    have hk3 : (a0 != 0) = false := bne_eq_false_iff_eq.mpr c1
    clear c1
    have H := HH.out
    obtain rfl := Option.some.inj H
    clear HH
    go_wp2
    go_ret
    exact ⟨by first | rfl | (simp; done) | (simp [*]; done), by repeat (first | exact Drawn0.refl _ | apply Drawn0.step)⟩
  · have H := HH.out
    rw [if_neg c1] at H
    replace HH := Aside0.mk H
    clear H
    have hk4 : (a0 == 0) = false := beq_eq_false_iff_ne.mpr c1
    have hk5 : (a0 != 0) = true := bne_iff_ne.mpr c1
    clear c1
    by_cases c6 : a0 = 8
    · have H := HH.out
      rw [if_pos c6] at H
      replace HH := Aside0.mk H
      clear H
      have hk7 : (a0 == 8) = true := beq_iff_eq.mpr c6
      have hk8 : (a0 != 8) = false := bne_eq_false_iff_eq.mpr c6
      clear c6
      have H := HH.out
      obtain rfl := Option.some.inj H
      clear HH
      go_wp2
      go_ret
      exact ⟨by first | rfl | (simp; done) | (simp [*]; done), by repeat (first | exact Drawn0.refl _ | apply Drawn0.step)⟩
    · have H := HH.out
      rw [if_neg c6] at H
      replace HH := Aside0.mk H
      clear H
      have hk9 : (a0 == 8) = false := beq_eq_false_iff_ne.mpr c6
      have hk10 : (a0 != 8) = true := bne_iff_ne.mpr c6
      clear c6
      by_cases c11 : a0 = 202
      · have H := HH.out
        rw [if_pos c11] at H
        replace HH := Aside0.mk H
        clear H
        have hk12 : (a0 == 202) = true := beq_iff_eq.mpr c11
        have hk13 : (a0 != 202) = false := bne_eq_false_iff_eq.mpr c11
        clear c11
        have H := HH.out
        obtain rfl := Option.some.inj H
        clear HH
        go_wp2
        go_ret
        exact ⟨by first | rfl | (simp; done) | (simp [*]; done), by repeat (first | exact Drawn0.refl _ | apply Drawn0.step)⟩
      · have H := HH.out
        rw [if_neg c11] at H
        replace HH := Aside0.mk H
        clear H
        have hk14 : (a0 == 202) = false := beq_eq_false_iff_ne.mpr c11
        have hk15 : (a0 != 202) = true := bne_iff_ne.mpr c11
        clear c11
        by_cases c16 : a0 = 220
        · have H := HH.out
          rw [if_pos c16] at H
          replace HH := Aside0.mk H
          clear H
          have hk17 : (a0 == 220) = true := beq_iff_eq.mpr c16
          have hk18 : (a0 != 220) = false := bne_eq_false_iff_eq.mpr c16
          clear c16
          have H := HH.out
          obtain rfl := Option.some.inj H
          clear HH
          go_wp2
          go_ret
          exact ⟨by first | rfl | (simp; done) | (simp [*]; done), by repeat (first | exact Drawn0.refl _ | apply Drawn0.step)⟩
        · have H := HH.out
          rw [if_neg c16] at H
          replace HH := Aside0.mk H
          clear H
          have hk19 : (a0 == 220) = false := beq_eq_false_iff_ne.mpr c16
          have hk20 : (a0 != 220) = true := bne_iff_ne.mpr c16
          clear c16
          have H := HH.out
          obtain rfl := Option.some.inj H
          clear HH
          go_wp2
          go_ret
          exact ⟨by first | rfl | (simp; done) | (simp [*]; done), by repeat (first | exact Drawn0.refl _ | apply Drawn0.step)⟩

end Go.Proofs.Ythdcofcikmeeeaa.GA
