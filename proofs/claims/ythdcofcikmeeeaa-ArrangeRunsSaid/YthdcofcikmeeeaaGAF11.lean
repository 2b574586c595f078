-- written by wip/gen.py, a program of this session
import Derived.Test.YthdcofcikmeeeaaGA0
import Derived.Test.YthdcofcikmeeeaaGAF18
namespace Go.Proofs.Ythdcofcikmeeeaa.GA
open Go.RowKit Go.Proofs.Ythdcofcikmeeeaa Go.Proofs.Ythdcofcikmeeeaa.MW Go.Proofs.YthdcofcikmeeeaaW.PrintWords Go.Proofs.YthdcofcikmeeeaaW.PrintLast Go.Proofs.YthdcofcikmeeeaaW.PrintMore
attribute [local go_sem] max2_int min2_int max_two min_two
set_option linter.unusedVariables false
set_option linter.unusedSimpArgs false

/-! ### arrange_Ordered: function 11 -/
def arrange_Ordered.l0 : Nat → Int → (List Int) → Option (Bool)
  | 0, _, _ => none
  | k + 1, x1, l0 => if x1 < (l0.length : Int) then (if 0 ≤ (wrap64 (x1 - 1)) then (if (wrap64 (x1 - 1)) < (l0.length : Int) then (if 0 ≤ x1 then ((arrange_wrong.f (rd l0 (wrap64 (x1 - 1))) (rd l0 x1)).bind fun t16 => (if t16 = true then (some false) else ((arrange_Ordered.l0 k (wrap64 (x1 + 1)) l0)))) else (none)) else (none)) else (none)) else (some true)
def arrange_Ordered.f (k : Nat) (l0 : List Int) : Option (Bool) := (arrange_Ordered.l0 k 1 l0)
theorem arrange_Ordered.mono_l : ∀ k, (∀ y0 y1, LeO (arrange_Ordered.l0 k y0 y1) (arrange_Ordered.l0 (k + 1) y0 y1))
  | 0 => fun _ _ r h => by simp [arrange_Ordered.l0] at h
  | k + 1 => by
    have ih0 := arrange_Ordered.mono_l k
    · intro y0 y1
      unfold arrange_Ordered.l0
      repeat' first
      | (with_reducible exact ih0 _ _)
      | (with_reducible exact LeO.refl _)
      | (with_reducible exact LeO.none _)
      | (with_reducible refine LeO.ite ?_ ?_)
      | (with_reducible refine LeO.bind ?_ (fun _ => ?_))
      | exact ih0 _ _
      | exact LeO.none _
      | refine LeO.ite ?_ ?_
      | refine LeO.bind ?_ (fun _ => ?_)
theorem arrange_Ordered.mono : ∀ a0_ k, LeO (arrange_Ordered.f k a0_) (arrange_Ordered.f (k + 1) a0_) := by
  intro a0_ k
  have ih0 := arrange_Ordered.mono_l k
  unfold arrange_Ordered.f
  repeat' first
      | (with_reducible exact ih0 _ _)
      | (with_reducible exact LeO.refl _)
      | (with_reducible exact LeO.none _)
      | (with_reducible refine LeO.ite ?_ ?_)
      | (with_reducible refine LeO.bind ?_ (fun _ => ?_))
      | exact ih0 _ _
      | exact LeO.none _
      | refine LeO.ite ?_ ?_
      | refine LeO.bind ?_ (fun _ => ?_)
set_option maxHeartbeats 8000000 in
set_option maxRecDepth 100000 in
theorem arrange_Ordered.calls (k : Nat) (P_ : Nat → Prop) (A0 : Option Addr) (c0 : Nat) (l0 : List Int) (r : Bool) (w : World) (hs0 : Kd.F (Kd.int .i32) w P_ A0 l0.length l0) (hc0 : l0.length ≤ c0) (h : arrange_Ordered.f k l0 = some r) :
    Calls Try.prog 11 #[.slice A0 l0.length c0] w (fun e w' => e = .returned (.bool r) ∧ Drawn0 w w') := by
  have HH := Aside0.mk (show ((arrange_Ordered.l0 k 1 l0)) = some r from h)
  clear h
  have HF0 := Aside0.mk (Kd.F_mono hs0 (fun k_ hk_ => (.inl hk_ : P_ k_ ∨ w.heap.size ≤ k_)))
  have HL0 := Aside0.mk hc0
  clear hs0 hc0
  go_enter Try.func11, Try.ntmps11
  go_wp2
  go_loopg [3] k (fun kq u3 w' => ∃ (x1 : Int), u3 = .int .i64 x1 ∧ Aside0 ((arrange_Ordered.l0 kq x1 l0) = some r) ∧ Aside0 (kq ≤ k) ∧ Drawn0 w w')
  case atStart => exact ⟨1, (by first | rfl | (simp; done) | (simp [*]; done)), HH, ⟨Nat.le_refl _⟩, by repeat (first | exact Drawn0.refl _ | apply Drawn0.step)⟩
  case round =>
    clear HH
    obtain ⟨x1, rfl, HA, HK0, ⟨m0_, rfl⟩⟩ := hrel
    cases gk with
    | zero => exact absurd HA.out (by simp [arrange_Ordered.l0])
    | succ k2 =>
      have H := HA.out
      clear HA
      simp only [arrange_Ordered.l0] at H
      have HH := Aside0.mk H
      clear H
      by_cases c4 : x1 < (l0.length : Int)
      · have H := HH.out
        rw [if_pos c4] at H
        replace HH := Aside0.mk H
        clear H
        have hk5 : (x1 < (l0.length : Int)) = True := eq_true c4
        have hk6 : decide (x1 < (l0.length : Int)) = true := decide_eq_true c4
        clear c4
        by_cases c7 : 0 ≤ (wrap64 (x1 - 1))
        · have H := HH.out
          rw [if_pos c7] at H
          replace HH := Aside0.mk H
          clear H
          have hk8 : decide (0 ≤ (wrap64 (x1 - 1))) = true := decide_eq_true c7
          clear c7
          by_cases c9 : (wrap64 (x1 - 1)) < (l0.length : Int)
          · have H := HH.out
            rw [if_pos c9] at H
            replace HH := Aside0.mk H
            clear H
            have hk10 : ((wrap64 (x1 - 1)) < (l0.length : Int)) = True := eq_true c9
            have hk11 : decide ((wrap64 (x1 - 1)) < (l0.length : Int)) = true := decide_eq_true c9
            clear c9
            have p12 : 0 ≤ ((wrap64 (x1 - 1)) : Int) := of_decide_eq_true (by first | (with_reducible assumption) | assumption)
            have q12 : (wrap64 (x1 - 1)) < (l0.length : Int) := of_decide_eq_true (by first | (with_reducible assumption) | assumption)
            obtain ⟨ad12, e12, hx12_0⟩ := Kd.at_int (Kd.F_now HF0.out) (wrap64 (x1 - 1)) p12 q12
            cases e12
            replace p12 := eq_true p12
            replace q12 := eq_true q12
            by_cases c13 : 0 ≤ x1
            · have H := HH.out
              rw [if_pos c13] at H
              replace HH := Aside0.mk H
              clear H
              have hk14 : decide (0 ≤ x1) = true := decide_eq_true c13
              clear c13
              have p15 : 0 ≤ (x1 : Int) := of_decide_eq_true (by first | (with_reducible assumption) | assumption)
              have q15 : x1 < (l0.length : Int) := of_decide_eq_true (by first | (with_reducible assumption) | assumption)
              obtain ⟨ad15, e15, hx15_0⟩ := Kd.at_int (Kd.F_now HF0.out) x1 p15 q15
              cases e15
              replace p15 := eq_true p15
              replace q15 := eq_true q15
              have H := HH.out
              replace H := Option.bind_eq_some_iff.mp H
              obtain ⟨t16, at_, H⟩ := H
              have At17 := Aside0.mk at_
              clear at_
              replace HH := Aside0.mk (show (if t16 = true then (some false) else ((arrange_Ordered.l0 k2 (wrap64 (x1 + 1)) l0))) = some r from H)
              clear H
              by_cases c18 : t16 = true
              · have H := HH.out
                rw [if_pos c18] at H
                replace HH := Aside0.mk H
                clear H
                subst c18
                have H := HH.out
                obtain rfl := Option.some.inj H
                clear HH
                go_wp2
                go_quiet ((first | (go_at_call 18; first | exact Calls.quiet_of (MW.drawn (arrange_wrong.calls  (rd l0 (wrap64 (x1 - 1))) (rd l0 x1) true _  At17.out)) | exact MW.quiet_far (MW.drawn (arrange_wrong.calls  (rd l0 (wrap64 (x1 - 1))) (rd l0 x1) true _  At17.out)))))
                go_wp2
                go_ret
                exact ⟨by first | rfl | (simp; done) | (simp [*]; done), by repeat (first | exact Drawn0.refl _ | apply Drawn0.step)⟩
              · have H := HH.out
                rw [if_neg c18] at H
                replace HH := Aside0.mk H
                clear H
                replace c18 := Bool.eq_false_iff.mpr c18
                subst c18
                go_wp2
                go_quiet ((first | (go_at_call 18; first | exact Calls.quiet_of (MW.drawn (arrange_wrong.calls  (rd l0 (wrap64 (x1 - 1))) (rd l0 x1) false _  At17.out)) | exact MW.quiet_far (MW.drawn (arrange_wrong.calls  (rd l0 (wrap64 (x1 - 1))) (rd l0 x1) false _  At17.out)))))
                go_wp2
                go_roundg k2
                case measure => have := HK0.out; omega
                case rel => exact ⟨wrap64 (x1 + 1), (by first | rfl | (simp; done) | (simp [*]; done)), HH, ⟨by have := HK0.out; omega⟩, by repeat (first | exact Drawn0.refl _ | apply Drawn0.step)⟩
            · exact absurd HH.out (by rw [if_neg c13]; simp)
          · exact absurd HH.out (by rw [if_neg c9]; simp)
        · exact absurd HH.out (by rw [if_neg c7]; simp)
      · have H := HH.out
        rw [if_neg c4] at H
        replace HH := Aside0.mk H
        clear H
        have hk23 : (x1 < (l0.length : Int)) = False := eq_false c4
        have hk24 : decide (x1 < (l0.length : Int)) = false := decide_eq_false c4
        clear c4
        have H := HH.out
        obtain rfl := Option.some.inj H
        clear HH
        go_wp2
        go_ret
        exact ⟨by first | rfl | (simp; done) | (simp [*]; done), by repeat (first | exact Drawn0.refl _ | apply Drawn0.step)⟩

end Go.Proofs.Ythdcofcikmeeeaa.GA
