-- written by wip/gen.py, a program of this session
import Derived.Test.YthdcofcikmeeeaaGA0
namespace Go.Proofs.Ythdcofcikmeeeaa.GA
open Go.RowKit Go.Proofs.Ythdcofcikmeeeaa Go.Proofs.Ythdcofcikmeeeaa.MW Go.Proofs.YthdcofcikmeeeaaW.PrintWords Go.Proofs.YthdcofcikmeeeaaW.PrintLast Go.Proofs.YthdcofcikmeeeaaW.PrintMore
attribute [local go_sem] max2_int min2_int max_two min_two
set_option linter.unusedVariables false
set_option linter.unusedSimpArgs false

/-! ### toponymref01_Same: function 8 -/
def toponymref01_Same.l0 : Nat → Int → (List Int) → (List Int) → Option (Bool)
  | 0, _, _, _ => none
  | k + 1, x5, l0, l1 => if x5 < (l0.length : Int) then (if 0 ≤ x5 then (if x5 < (l1.length : Int) then (if (rd l0 x5) = (rd l1 x5) then ((toponymref01_Same.l0 k (wrap64 (x5 + 1)) l0 l1)) else (some false)) else (none)) else (none)) else (some true)
def toponymref01_Same.f (k : Nat) (l0 : List Int) (l1 : List Int) : Option (Bool) := if (l0.length : Int) = (l1.length : Int) then ((toponymref01_Same.l0 k 0 l0 l1)) else (some false)
theorem toponymref01_Same.mono_l : ∀ k, (∀ y0 y1 y2, LeO (toponymref01_Same.l0 k y0 y1 y2) (toponymref01_Same.l0 (k + 1) y0 y1 y2))
  | 0 => fun _ _ _ r h => by simp [toponymref01_Same.l0] at h
  | k + 1 => by
    have ih0 := toponymref01_Same.mono_l k
    · intro y0 y1 y2
      unfold toponymref01_Same.l0
      repeat' first
      | (with_reducible exact ih0 _ _ _)
      | (with_reducible exact LeO.refl _)
      | (with_reducible exact LeO.none _)
      | (with_reducible refine LeO.ite ?_ ?_)
      | (with_reducible refine LeO.bind ?_ (fun _ => ?_))
      | exact ih0 _ _ _
      | exact LeO.none _
      | refine LeO.ite ?_ ?_
      | refine LeO.bind ?_ (fun _ => ?_)
theorem toponymref01_Same.mono : ∀ a0_ a1_ k, LeO (toponymref01_Same.f k a0_ a1_) (toponymref01_Same.f (k + 1) a0_ a1_) := by
  intro a0_ a1_ k
  have ih0 := toponymref01_Same.mono_l k
  unfold toponymref01_Same.f
  repeat' first
      | (with_reducible exact ih0 _ _ _)
      | (with_reducible exact LeO.refl _)
      | (with_reducible exact LeO.none _)
      | (with_reducible refine LeO.ite ?_ ?_)
      | (with_reducible refine LeO.bind ?_ (fun _ => ?_))
      | exact ih0 _ _ _
      | exact LeO.none _
      | refine LeO.ite ?_ ?_
      | refine LeO.bind ?_ (fun _ => ?_)
set_option maxHeartbeats 8000000 in
set_option maxRecDepth 100000 in
theorem toponymref01_Same.calls (k : Nat) (P_ : Nat → Prop) (A0 : Option Addr) (c0 : Nat) (l0 : List Int) (A1 : Option Addr) (c1 : Nat) (l1 : List Int) (r : Bool) (w : World) (hs0 : Kd.F (Kd.int .i32) w P_ A0 l0.length l0) (hc0 : l0.length ≤ c0) (hs1 : Kd.F (Kd.int .i32) w P_ A1 l1.length l1) (hc1 : l1.length ≤ c1) (h : toponymref01_Same.f k l0 l1 = some r) :
    Calls Try.prog 8 #[.slice A0 l0.length c0, .slice A1 l1.length c1] w (fun e w' => e = .returned (.bool r) ∧ Drawn0 w w') := by
  have HH := Aside0.mk (show (if (l0.length : Int) = (l1.length : Int) then ((toponymref01_Same.l0 k 0 l0 l1)) else (some false)) = some r from h)
  clear h
  have HF0 := Aside0.mk (Kd.F_mono hs0 (fun k_ hk_ => (.inl hk_ : P_ k_ ∨ w.heap.size ≤ k_)))
  have HL0 := Aside0.mk hc0
  clear hs0 hc0
  have HF1 := Aside0.mk (Kd.F_mono hs1 (fun k_ hk_ => (.inl hk_ : P_ k_ ∨ w.heap.size ≤ k_)))
  have HL1 := Aside0.mk hc1
  clear hs1 hc1
  go_enter Try.func8, Try.ntmps8
  by_cases c1 : (l0.length : Int) = (l1.length : Int)
  · have H := HH.out
    rw [if_pos c1] at H
    replace HH := Aside0.mk H
    clear H
    have hk2 : ((l0.length : Int) == (l1.length : Int)) = true := beq_iff_eq.mpr c1
    have hk3 : ((l0.length : Int) != (l1.length : Int)) = false := bne_eq_false_iff_eq.mpr c1
    have hk4 : (l0.length == l1.length) = true := by first | simpa using c1 | (simp at c1 ⊢; omega)
    clear c1
    go_wp2
    go_loopg [5] k (fun kq u5 w' => ∃ (x5 : Int), u5 = .int .i64 x5 ∧ Aside0 ((toponymref01_Same.l0 kq x5 l0 l1) = some r) ∧ Aside0 (kq ≤ k) ∧ Drawn0 w w')
    case atStart => exact ⟨0, (by first | rfl | (simp; done) | (simp [*]; done)), HH, ⟨Nat.le_refl _⟩, by repeat (first | exact Drawn0.refl _ | apply Drawn0.step)⟩
    case round =>
      clear hk2
      clear hk3
      clear hk4
      clear HH
      obtain ⟨x5, rfl, HA, HK0, ⟨m0_, rfl⟩⟩ := hrel
      cases gk with
      | zero => exact absurd HA.out (by simp [toponymref01_Same.l0])
      | succ k6 =>
        have H := HA.out
        clear HA
        simp only [toponymref01_Same.l0] at H
        have HH := Aside0.mk H
        clear H
        by_cases c8 : x5 < (l0.length : Int)
        · have H := HH.out
          rw [if_pos c8] at H
          replace HH := Aside0.mk H
          clear H
          have hk9 : (x5 < (l0.length : Int)) = True := eq_true c8
          have hk10 : decide (x5 < (l0.length : Int)) = true := decide_eq_true c8
          clear c8
          by_cases c11 : 0 ≤ x5
          · have H := HH.out
            rw [if_pos c11] at H
            replace HH := Aside0.mk H
            clear H
            have hk12 : decide (0 ≤ x5) = true := decide_eq_true c11
            clear c11
            have p13 : 0 ≤ (x5 : Int) := of_decide_eq_true (by first | (with_reducible assumption) | assumption)
            have q13 : x5 < (l0.length : Int) := of_decide_eq_true (by first | (with_reducible assumption) | assumption)
            obtain ⟨ad13, e13, hx13_0⟩ := Kd.at_int (Kd.F_now HF0.out) x5 p13 q13
            cases e13
            replace p13 := eq_true p13
            replace q13 := eq_true q13
            by_cases c14 : x5 < (l1.length : Int)
            · have H := HH.out
              rw [if_pos c14] at H
              replace HH := Aside0.mk H
              clear H
              have hk15 : (x5 < (l1.length : Int)) = True := eq_true c14
              have hk16 : decide (x5 < (l1.length : Int)) = true := decide_eq_true c14
              clear c14
              have p17 : 0 ≤ (x5 : Int) := of_decide_eq_true (by first | (with_reducible assumption) | assumption)
              have q17 : x5 < (l1.length : Int) := of_decide_eq_true (by first | (with_reducible assumption) | assumption)
              obtain ⟨ad17, e17, hx17_0⟩ := Kd.at_int (Kd.F_now HF1.out) x5 p17 q17
              cases e17
              replace p17 := eq_true p17
              replace q17 := eq_true q17
              by_cases c18 : (rd l0 x5) = (rd l1 x5)
              · have H := HH.out
                rw [if_pos c18] at H
                replace HH := Aside0.mk H
                clear H
                have hk19 : ((rd l0 x5) == (rd l1 x5)) = true := beq_iff_eq.mpr c18
                have hk20 : ((rd l0 x5) != (rd l1 x5)) = false := bne_eq_false_iff_eq.mpr c18
                clear c18
                go_wp2
                go_quiet (fail)
                go_wp2
                go_roundg k6
                case measure => have := HK0.out; omega
                case rel => exact ⟨wrap64 (x5 + 1), (by first | rfl | (simp; done) | (simp [*]; done)), HH, ⟨by have := HK0.out; omega⟩, by repeat (first | exact Drawn0.refl _ | apply Drawn0.step)⟩
              · have H := HH.out
                rw [if_neg c18] at H
                replace HH := Aside0.mk H
                clear H
                have hk21 : ((rd l0 x5) == (rd l1 x5)) = false := beq_eq_false_iff_ne.mpr c18
                have hk22 : ((rd l0 x5) != (rd l1 x5)) = true := bne_iff_ne.mpr c18
                clear c18
                have H := HH.out
                obtain rfl := Option.some.inj H
                clear HH
                go_wp2
                go_quiet (fail)
                go_wp2
                go_ret
                exact ⟨by first | rfl | (simp; done) | (simp [*]; done), by repeat (first | exact Drawn0.refl _ | apply Drawn0.step)⟩
            · exact absurd HH.out (by rw [if_neg c14]; simp)
          · exact absurd HH.out (by rw [if_neg c11]; simp)
        · have H := HH.out
          rw [if_neg c8] at H
          replace HH := Aside0.mk H
          clear H
          have hk26 : (x5 < (l0.length : Int)) = False := eq_false c8
          have hk27 : decide (x5 < (l0.length : Int)) = false := decide_eq_false c8
          clear c8
          have H := HH.out
          obtain rfl := Option.some.inj H
          clear HH
          go_wp2
          go_ret
          exact ⟨by first | rfl | (simp; done) | (simp [*]; done), by repeat (first | exact Drawn0.refl _ | apply Drawn0.step)⟩
  · have H := HH.out
    rw [if_neg c1] at H
    replace HH := Aside0.mk H
    clear H
    have hk28 : ((l0.length : Int) == (l1.length : Int)) = false := beq_eq_false_iff_ne.mpr c1
    have hk29 : ((l0.length : Int) != (l1.length : Int)) = true := bne_iff_ne.mpr c1
    have hk30 : (l0.length == l1.length) = false := by first | simpa using c1 | (simp at c1 ⊢; omega)
    clear c1
    have H := HH.out
    obtain rfl := Option.some.inj H
    clear HH
    go_wp2
    go_ret
    exact ⟨by first | rfl | (simp; done) | (simp [*]; done), by repeat (first | exact Drawn0.refl _ | apply Drawn0.step)⟩

end Go.Proofs.Ythdcofcikmeeeaa.GA
