-- written by wip/gen.py, a program of this session
import Derived.Test.YtkbiiijmgbjnkaaGA0
namespace Go.Proofs.Ytkbiiijmgbjnkaa.GA
open Go.RowKit Go.Proofs.Ytkbiiijmgbjnkaa Go.Proofs.Ytkbiiijmgbjnkaa.MW Go.Proofs.YtkbiiijmgbjnkaaW.PrintWords Go.Proofs.YtkbiiijmgbjnkaaW.PrintLast Go.Proofs.YtkbiiijmgbjnkaaW.PrintMore
attribute [local go_sem] max2_int min2_int max_two min_two
set_option linter.unusedVariables false
set_option linter.unusedSimpArgs false

/-! ### slices_Index_int_int: function 40 -/
def slices_Index_int_int.l0 : Nat → Int → Int → (List Int) → Option (Int)
  | 0, _, _, _ => none
  | k + 1, x1, a1, l0 => if x1 < (l0.length : Int) then (if 0 ≤ x1 then (if a1 = (rd l0 x1) then (some x1) else ((slices_Index_int_int.l0 k (wrap64 (x1 + 1)) a1 l0))) else (none)) else (some (-1))
def slices_Index_int_int.f (k : Nat) (l0 : List Int) (a1 : Int) : Option (Int) := (slices_Index_int_int.l0 k 0 a1 l0)
theorem slices_Index_int_int.mono_l : ∀ k, (∀ y0 y1 y2, LeO (slices_Index_int_int.l0 k y0 y1 y2) (slices_Index_int_int.l0 (k + 1) y0 y1 y2))
  | 0 => fun _ _ _ r h => by simp [slices_Index_int_int.l0] at h
  | k + 1 => by
    have ih0 := slices_Index_int_int.mono_l k
    · intro y0 y1 y2
      unfold slices_Index_int_int.l0
      repeat' first
      | (with_reducible exact ih0 _ _ _)
      | (with_reducible exact LeO.refl _)
      | (with_reducible exact LeO.none _)
      | (with_reducible refine LeO.ite ?_ ?_)
      | (with_reducible refine LeO.bind ?_ (fun _ => ?_))
      | exact ih0 _ _ _
      | exact LeO.none _
      | refine LeO.ite ?_ ?_
      | refine LeO.bind ?_ (fun _ => ?_)
theorem slices_Index_int_int.mono : ∀ a0_ a1_ k, LeO (slices_Index_int_int.f k a0_ a1_) (slices_Index_int_int.f (k + 1) a0_ a1_) := by
  intro a0_ a1_ k
  have ih0 := slices_Index_int_int.mono_l k
  unfold slices_Index_int_int.f
  repeat' first
      | (with_reducible exact ih0 _ _ _)
      | (with_reducible exact LeO.refl _)
      | (with_reducible exact LeO.none _)
      | (with_reducible refine LeO.ite ?_ ?_)
      | (with_reducible refine LeO.bind ?_ (fun _ => ?_))
      | exact ih0 _ _ _
      | exact LeO.none _
      | refine LeO.ite ?_ ?_
      | refine LeO.bind ?_ (fun _ => ?_)
set_option maxHeartbeats 8000000 in
set_option maxRecDepth 100000 in
theorem slices_Index_int_int.calls (k : Nat) (P_ : Nat → Prop) (A0 : Option Addr) (c0 : Nat) (l0 : List Int) (a1 : Int) (r : Int) (w : World) (hs0 : Kd.F (Kd.int .i64) w P_ A0 l0.length l0) (hc0 : l0.length ≤ c0) (h : slices_Index_int_int.f k l0 a1 = some r) :
    Calls Try.prog 40 #[.slice A0 l0.length c0, .int .i64 a1] w (fun e w' => e = .returned (.int .i64 r) ∧ Drawn0 w w') := by
  have HH := Aside0.mk (show ((slices_Index_int_int.l0 k 0 a1 l0)) = some r from h)
  clear h
  have HF0 := Aside0.mk (Kd.F_mono hs0 (fun k_ hk_ => (.inl hk_ : P_ k_ ∨ w.heap.size ≤ k_)))
  have HL0 := Aside0.mk hc0
  clear hs0 hc0
  go_enter Try.func40, Try.ntmps40
  go_wp2
  go_loopg [8] k (fun kq u8 w' => ∃ (x1 : Int), u8 = .int .i64 x1 ∧ Aside0 ((slices_Index_int_int.l0 kq x1 a1 l0) = some r) ∧ Aside0 (kq ≤ k) ∧ Drawn0 w w')
  case atStart => exact ⟨0, (by first | rfl | (simp; done) | (simp [*]; done)), HH, ⟨Nat.le_refl _⟩, by repeat (first | exact Drawn0.refl _ | apply Drawn0.step)⟩
  case round =>
    clear HH
    obtain ⟨x1, rfl, HA, HK0, ⟨m0_, rfl⟩⟩ := hrel
    cases gk with
    | zero => exact absurd HA.out (by simp [slices_Index_int_int.l0])
    | succ k2 =>
      have H := HA.out
      clear HA
      simp only [slices_Index_int_int.l0] at H
      have HH := Aside0.mk H
      clear H
      by_cases c4 : x1 < (l0.length : Int)
      · have H := HH.out
        rw [if_pos c4] at H
        replace HH := Aside0.mk H
        clear H
        have hk5 : (x1 < (l0.length : Int)) = True := eq_true c4
        have hk6 : decide (x1 < (l0.length : Int)) = true := decide_eq_true c4
        clear c4
        by_cases c7 : 0 ≤ x1
        · have H := HH.out
          rw [if_pos c7] at H
          replace HH := Aside0.mk H
          clear H
          have hk8 : decide (0 ≤ x1) = true := decide_eq_true c7
          clear c7
          have p9 : 0 ≤ (x1 : Int) := of_decide_eq_true (by first | (with_reducible assumption) | assumption)
          have q9 : x1 < (l0.length : Int) := of_decide_eq_true (by first | (with_reducible assumption) | assumption)
          obtain ⟨ad9, e9, hx9_0⟩ := Kd.at_int (Kd.F_now HF0.out) x1 p9 q9
          cases e9
          replace p9 := eq_true p9
          replace q9 := eq_true q9
          by_cases c10 : a1 = (rd l0 x1)
          · have H := HH.out
            rw [if_pos c10] at H
            replace HH := Aside0.mk H
            clear H
            have hk11 : (a1 == (rd l0 x1)) = true := beq_iff_eq.mpr c10
            have hk12 : (a1 != (rd l0 x1)) = false := bne_eq_false_iff_eq.mpr c10
            clear c10
            have H := HH.out
            obtain rfl := Option.some.inj H
            clear HH
            go_wp2
            go_ret
            exact ⟨by first | rfl | (simp; done) | (simp [*]; done), by repeat (first | exact Drawn0.refl _ | apply Drawn0.step)⟩
          · have H := HH.out
            rw [if_neg c10] at H
            replace HH := Aside0.mk H
            clear H
            have hk13 : (a1 == (rd l0 x1)) = false := beq_eq_false_iff_ne.mpr c10
            have hk14 : (a1 != (rd l0 x1)) = true := bne_iff_ne.mpr c10
            clear c10
            go_wp2
            go_roundg k2
            case measure => have := HK0.out; omega
            case rel => exact ⟨wrap64 (x1 + 1), (by first | rfl | (simp; done) | (simp [*]; done)), HH, ⟨by have := HK0.out; omega⟩, by repeat (first | exact Drawn0.refl _ | apply Drawn0.step)⟩
        · exact absurd HH.out (by rw [if_neg c7]; simp)
      · have H := HH.out
        rw [if_neg c4] at H
        replace HH := Aside0.mk H
        clear H
        have hk16 : (x1 < (l0.length : Int)) = False := eq_false c4
        have hk17 : decide (x1 < (l0.length : Int)) = false := decide_eq_false c4
        clear c4
        have H := HH.out
        obtain rfl := Option.some.inj H
        clear HH
        go_wp2
        go_ret
        exact ⟨by first | rfl | (simp; done) | (simp [*]; done), by repeat (first | exact Drawn0.refl _ | apply Drawn0.step)⟩

end Go.Proofs.Ytkbiiijmgbjnkaa.GA
