-- written by wip/gen.py, a program of this session
import Derived.Test.YtkbiiijmgbjnkaaGA0
import Derived.Test.YtkbiiijmgbjnkaaGAF25
namespace Go.Proofs.Ytkbiiijmgbjnkaa.GA
open Go.RowKit Go.Proofs.Ytkbiiijmgbjnkaa Go.Proofs.Ytkbiiijmgbjnkaa.MW Go.Proofs.YtkbiiijmgbjnkaaW.PrintWords Go.Proofs.YtkbiiijmgbjnkaaW.PrintLast Go.Proofs.YtkbiiijmgbjnkaaW.PrintMore
attribute [local go_sem] max2_int min2_int max_two min_two
set_option linter.unusedVariables false
set_option linter.unusedSimpArgs false

/-! ### chars_Class: function 12 -/
def chars_Class.f (a0 : Int) : Option (Int) := (chars_mark.f a0).bind fun t1 => (if t1 = true then (if a0 = 807 then (some 202) else (if a0 = 808 then (some 202) else (if a0 = 803 then (some 220) else (if a0 ≥ 12441 then (some 8) else (some 230))))) else (some 0))
set_option maxHeartbeats 8000000 in
set_option maxRecDepth 100000 in
theorem chars_Class.calls (a0 : Int) (r : Int) (w : World) (h : chars_Class.f a0 = some r) :
    Calls Try.prog 12 #[.int .i32 a0] w (fun e w' => e = .returned (.int .i64 r) ∧ Drawn0 w w') := by
  have HH := Aside0.mk (show ((chars_mark.f a0).bind fun t1 => (if t1 = true then (if a0 = 807 then (some 202) else (if a0 = 808 then (some 202) else (if a0 = 803 then (some 220) else (if a0 ≥ 12441 then (some 8) else (some 230))))) else (some 0))) = some r from h)
  clear h
  go_enter Try.func12, Try.ntmps12
  have H := HH.out
  replace H := Option.bind_eq_some_iff.mp H
  obtain ⟨t1, at_, H⟩ := H
  have At2 := Aside0.mk at_
  clear at_
  replace HH := Aside0.mk (show (if t1 = true then (if a0 = 807 then (some 202) else (if a0 = 808 then (some 202) else (if a0 = 803 then (some 220) else (if a0 ≥ 12441 then (some 8) else (some 230))))) else (some 0)) = some r from H)
  clear H
  go_wp2_with (((with_reducible refine gate_callee (f := 25) rfl ?_); (try (refine gate_guard (by rfl) ?_; dsimp only)); refine goesL_ (some 5) rfl rfl Try.func25 (by kernel_rfl) rfl #[.int .i32 a0] rfl (by (try simp only [List.map_toArray, List.map_cons, List.map_nil]); first | done | rfl | (simp only [List.length_drop, List.length_take]; rfl)) ?_; (with_reducible refine (chars_mark.calls  a0 t1 _  At2.out).mono ?_); rintro e w' ⟨rfl, ⟨nd, rfl⟩⟩; refine ⟨_, rfl, ?_⟩); refine stop_ ?_)
  refine Stop.go ?_
  by_cases c4 : t1 = true
  · have H := HH.out
    rw [if_pos c4] at H
    replace HH := Aside0.mk H
    clear H
    subst c4
    by_cases c5 : a0 = 807
    · have H := HH.out
      rw [if_pos c5] at H
      replace HH := Aside0.mk H
      clear H
      have hk6 : (a0 == 807) = true := beq_iff_eq.mpr c5
      have hk7 : (a0 != 807) = false := bne_eq_false_iff_eq.mpr c5
      clear c5
      have H := HH.out
      obtain rfl := Option.some.inj H
      clear HH
      go_wp2
      go_ret
      exact ⟨by first | rfl | (simp; done) | (simp [*]; done), by repeat (first | exact Drawn0.refl _ | apply Drawn0.step)⟩
    · have H := HH.out
      rw [if_neg c5] at H
      replace HH := Aside0.mk H
      clear H
      have hk8 : (a0 == 807) = false := beq_eq_false_iff_ne.mpr c5
      have hk9 : (a0 != 807) = true := bne_iff_ne.mpr c5
      clear c5
      by_cases c10 : a0 = 808
      · have H := HH.out
        rw [if_pos c10] at H
        replace HH := Aside0.mk H
        clear H
        have hk11 : (a0 == 808) = true := beq_iff_eq.mpr c10
        have hk12 : (a0 != 808) = false := bne_eq_false_iff_eq.mpr c10
        clear c10
        have H := HH.out
        obtain rfl := Option.some.inj H
        clear HH
        go_wp2
        go_ret
        exact ⟨by first | rfl | (simp; done) | (simp [*]; done), by repeat (first | exact Drawn0.refl _ | apply Drawn0.step)⟩
      · have H := HH.out
        rw [if_neg c10] at H
        replace HH := Aside0.mk H
        clear H
        have hk13 : (a0 == 808) = false := beq_eq_false_iff_ne.mpr c10
        have hk14 : (a0 != 808) = true := bne_iff_ne.mpr c10
        clear c10
        by_cases c15 : a0 = 803
        · have H := HH.out
          rw [if_pos c15] at H
          replace HH := Aside0.mk H
          clear H
          have hk16 : (a0 == 803) = true := beq_iff_eq.mpr c15
          have hk17 : (a0 != 803) = false := bne_eq_false_iff_eq.mpr c15
          clear c15
          have H := HH.out
          obtain rfl := Option.some.inj H
          clear HH
          go_wp2
          go_ret
          exact ⟨by first | rfl | (simp; done) | (simp [*]; done), by repeat (first | exact Drawn0.refl _ | apply Drawn0.step)⟩
        · have H := HH.out
          rw [if_neg c15] at H
          replace HH := Aside0.mk H
          clear H
          have hk18 : (a0 == 803) = false := beq_eq_false_iff_ne.mpr c15
          have hk19 : (a0 != 803) = true := bne_iff_ne.mpr c15
          clear c15
          by_cases c20 : a0 ≥ 12441
          · have H := HH.out
            rw [if_pos c20] at H
            replace HH := Aside0.mk H
            clear H
            have hk21 : decide (12441 ≤ a0) = true := decide_eq_true c20
            clear c20
            have H := HH.out
            obtain rfl := Option.some.inj H
            clear HH
            go_wp2
            go_ret
            exact ⟨by first | rfl | (simp; done) | (simp [*]; done), by repeat (first | exact Drawn0.refl _ | apply Drawn0.step)⟩
          · have H := HH.out
            rw [if_neg c20] at H
            replace HH := Aside0.mk H
            clear H
            have hk22 : decide (12441 ≤ a0) = false := decide_eq_false c20
            clear c20
            have H := HH.out
            obtain rfl := Option.some.inj H
            clear HH
            go_wp2
            go_ret
            exact ⟨by first | rfl | (simp; done) | (simp [*]; done), by repeat (first | exact Drawn0.refl _ | apply Drawn0.step)⟩
  · have H := HH.out
    rw [if_neg c4] at H
    replace HH := Aside0.mk H
    clear H
    replace c4 := Bool.eq_false_iff.mpr c4
    subst c4
    have H := HH.out
    obtain rfl := Option.some.inj H
    clear HH
    go_wp2
    go_ret
    exact ⟨by first | rfl | (simp; done) | (simp [*]; done), by repeat (first | exact Drawn0.refl _ | apply Drawn0.step)⟩

end Go.Proofs.Ytkbiiijmgbjnkaa.GA
