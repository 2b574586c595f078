-- written by wip/gen.py, a program of this session
import Derived.Test.YtkbiiijmgbjnkaaGA0
import Derived.Test.YtkbiiijmgbjnkaaGAF9
namespace Go.Proofs.Ytkbiiijmgbjnkaa.GA
open Go.RowKit Go.Proofs.Ytkbiiijmgbjnkaa Go.Proofs.Ytkbiiijmgbjnkaa.MW Go.Proofs.YtkbiiijmgbjnkaaW.PrintWords Go.Proofs.YtkbiiijmgbjnkaaW.PrintLast Go.Proofs.YtkbiiijmgbjnkaaW.PrintMore
attribute [local go_sem] max2_int min2_int max_two min_two
set_option linter.unusedVariables false
set_option linter.unusedSimpArgs false

/-! ### toponymref03_Is: function 11 -/
def toponymref03_Is.l0 : Nat → Int → (List Int) → Int → Option (Bool)
  | 0, _, _, _ => none
  | k + 1, x4, l1, t1 => if x4 < (l1.length : Int) then (if 0 ≤ x4 then (if (rd l1 x4) = t1 then (some true) else ((toponymref03_Is.l0 k (wrap64 (x4 + 1)) l1 t1))) else (none)) else (some false)
def toponymref03_Is.f (k : Nat) (a0 : Int) (l1 : List Int) : Option (Bool) := (toponymref03_Kind.f k a0).bind fun t1 => ((toponymref03_Is.l0 k 0 l1 t1))
theorem toponymref03_Is.mono_l : ∀ k, (∀ y0 y1 y2, LeO (toponymref03_Is.l0 k y0 y1 y2) (toponymref03_Is.l0 (k + 1) y0 y1 y2))
  | 0 => fun _ _ _ r h => by simp [toponymref03_Is.l0] at h
  | k + 1 => by
    have ih0 := toponymref03_Is.mono_l k
    · intro y0 y1 y2
      unfold toponymref03_Is.l0
      repeat' first
      | (with_reducible exact ih0 _ _ _)
      | (with_reducible exact toponymref03_Kind.mono _ _)
      | (with_reducible exact LeO.refl _)
      | (with_reducible exact LeO.none _)
      | (with_reducible refine LeO.ite ?_ ?_)
      | (with_reducible refine LeO.bind ?_ (fun _ => ?_))
      | exact ih0 _ _ _
      | exact toponymref03_Kind.mono _ _
      | exact LeO.none _
      | refine LeO.ite ?_ ?_
      | refine LeO.bind ?_ (fun _ => ?_)
theorem toponymref03_Is.mono : ∀ a0_ a1_ k, LeO (toponymref03_Is.f k a0_ a1_) (toponymref03_Is.f (k + 1) a0_ a1_) := by
  intro a0_ a1_ k
  have ih0 := toponymref03_Is.mono_l k
  unfold toponymref03_Is.f
  repeat' first
      | (with_reducible exact ih0 _ _ _)
      | (with_reducible exact toponymref03_Kind.mono _ _)
      | (with_reducible exact LeO.refl _)
      | (with_reducible exact LeO.none _)
      | (with_reducible refine LeO.ite ?_ ?_)
      | (with_reducible refine LeO.bind ?_ (fun _ => ?_))
      | exact ih0 _ _ _
      | exact toponymref03_Kind.mono _ _
      | exact LeO.none _
      | refine LeO.ite ?_ ?_
      | refine LeO.bind ?_ (fun _ => ?_)
set_option maxHeartbeats 8000000 in
set_option maxRecDepth 100000 in
theorem toponymref03_Is.calls (k : Nat) (P_ : Nat → Prop) (a0 : Int) (A1 : Option Addr) (c1 : Nat) (l1 : List Int) (r : Bool) (w : World) (hs1 : Kd.F (Kd.int .i64) w P_ A1 l1.length l1) (hc1 : l1.length ≤ c1) (h : toponymref03_Is.f k a0 l1 = some r) :
    Calls Try.prog 11 #[.int .i32 a0, .slice A1 l1.length c1] w (fun e w' => e = .returned (.bool r) ∧ Below w.heap.size w w') := by
  have HH := Aside0.mk (show ((toponymref03_Kind.f k a0).bind fun t1 => ((toponymref03_Is.l0 k 0 l1 t1))) = some r from h)
  clear h
  have HF1 := Aside0.mk (Kd.F_mono hs1 (fun k_ hk_ => (.inl hk_ : P_ k_ ∨ w.heap.size ≤ k_)))
  have HL1 := Aside0.mk hc1
  clear hs1 hc1
  have HB := Aside0.mk (Below.refl w.heap.size w)
  go_enter Try.func11, Try.ntmps11
  have H := HH.out
  replace H := Option.bind_eq_some_iff.mp H
  obtain ⟨t1, at_, H⟩ := H
  have At2 := Aside0.mk at_
  clear at_
  replace HH := Aside0.mk (show ((toponymref03_Is.l0 k 0 l1 t1)) = some r from H)
  clear H
  go_wp2_with (((with_reducible refine gate_callee (f := 9) rfl ?_); (try (refine gate_guard (by rfl) ?_; dsimp only)); refine goesL_ (some 8) rfl rfl Try.func9 (by kernel_rfl) rfl #[.int .i32 a0] rfl (by (try simp only [List.map_toArray, List.map_cons, List.map_nil]); first | done | rfl | (simp only [List.length_drop, List.length_take]; rfl)) ?_; (with_reducible refine (toponymref03_Kind.calls k  a0 t1 _  At2.out).mono ?_); rintro e w3 ⟨rfl, hb⟩; refine ⟨_, rfl, ?_⟩); refine stop_ ?_)
  refine Stop.go ?_
  replace HF1 := Aside0.mk (Kd.F_below HF1.out hb)
  replace HB := Aside0.mk (below_step HB.out hb)
  clear hb
  go_wp2
  go_loopg [6] k (fun kq u6 w' => ∃ (x4 : Int), u6 = .int .i64 x4 ∧ Aside0 ((toponymref03_Is.l0 kq x4 l1 t1) = some r) ∧ Aside0 (kq ≤ k) ∧ Aside0 (Kd.F (Kd.int .i64) w' (fun k_ => (P_ k_ ∨ w.heap.size ≤ k_)) A1 l1.length l1) ∧ Aside0 (Below w.heap.size w w'))
  case atStart => exact ⟨0, (by first | rfl | (simp; done) | (simp [*]; done)), HH, ⟨Nat.le_refl _⟩, ⟨(Kd.F_mono (ok := (fun k_ => (P_ k_ ∨ w.heap.size ≤ k_))) HF1.out (fun k_ hk_ => hk_))⟩, ⟨HB.out⟩⟩
  case round =>
    clear HH
    clear HF1 HB
    obtain ⟨x4, rfl, HA, HK0, HF1, HB⟩ := hrel
    obtain ⟨w6, rfl⟩ : ∃ wo_ : World, wo_ = wr := ⟨_, rfl⟩
    cases gk with
    | zero => exact absurd HA.out (by simp [toponymref03_Is.l0])
    | succ k5 =>
      have H := HA.out
      clear HA
      simp only [toponymref03_Is.l0] at H
      have HH := Aside0.mk H
      clear H
      by_cases c7 : x4 < (l1.length : Int)
      · have H := HH.out
        rw [if_pos c7] at H
        replace HH := Aside0.mk H
        clear H
        have hk8 : (x4 < (l1.length : Int)) = True := eq_true c7
        have hk9 : decide (x4 < (l1.length : Int)) = true := decide_eq_true c7
        clear c7
        by_cases c10 : 0 ≤ x4
        · have H := HH.out
          rw [if_pos c10] at H
          replace HH := Aside0.mk H
          clear H
          have hk11 : decide (0 ≤ x4) = true := decide_eq_true c10
          clear c10
          have p12 : 0 ≤ (x4 : Int) := of_decide_eq_true (by first | (with_reducible assumption) | assumption)
          have q12 : x4 < (l1.length : Int) := of_decide_eq_true (by first | (with_reducible assumption) | assumption)
          obtain ⟨ad12, e12, hx12_0⟩ := Kd.at_int (Kd.F_now HF1.out) x4 p12 q12
          cases e12
          replace p12 := eq_true p12
          replace q12 := eq_true q12
          by_cases c13 : (rd l1 x4) = t1
          · have H := HH.out
            rw [if_pos c13] at H
            replace HH := Aside0.mk H
            clear H
            have hk14 : ((rd l1 x4) == t1) = true := beq_iff_eq.mpr c13
            have hk15 : ((rd l1 x4) != t1) = false := bne_eq_false_iff_eq.mpr c13
            clear c13
            have H := HH.out
            obtain rfl := Option.some.inj H
            clear HH
            go_wp2
            go_ret
            exact ⟨by first | rfl | (simp; done) | (simp [*]; done), HB.out⟩
          · have H := HH.out
            rw [if_neg c13] at H
            replace HH := Aside0.mk H
            clear H
            have hk16 : ((rd l1 x4) == t1) = false := beq_eq_false_iff_ne.mpr c13
            have hk17 : ((rd l1 x4) != t1) = true := bne_iff_ne.mpr c13
            clear c13
            go_wp2
            go_roundg k5
            case measure => have := HK0.out; omega
            case rel => exact ⟨wrap64 (x4 + 1), (by first | rfl | (simp; done) | (simp [*]; done)), HH, ⟨by have := HK0.out; omega⟩, ⟨(Kd.F_mono (ok := (fun k_ => (P_ k_ ∨ w.heap.size ≤ k_))) HF1.out (fun k_ hk_ => hk_))⟩, ⟨HB.out⟩⟩
        · exact absurd HH.out (by rw [if_neg c10]; simp)
      · have H := HH.out
        rw [if_neg c7] at H
        replace HH := Aside0.mk H
        clear H
        have hk19 : (x4 < (l1.length : Int)) = False := eq_false c7
        have hk20 : decide (x4 < (l1.length : Int)) = false := decide_eq_false c7
        clear c7
        have H := HH.out
        obtain rfl := Option.some.inj H
        clear HH
        go_wp2
        go_ret
        exact ⟨by first | rfl | (simp; done) | (simp [*]; done), HB.out⟩

end Go.Proofs.Ytkbiiijmgbjnkaa.GA
