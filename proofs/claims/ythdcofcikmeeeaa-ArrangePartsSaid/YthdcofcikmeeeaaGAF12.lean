-- written by wip/gen.py, a program of this session
import Derived.Test.YthdcofcikmeeeaaGA0
import Derived.Test.YthdcofcikmeeeaaGAF20
namespace Go.Proofs.Ythdcofcikmeeeaa.GA
open Go.RowKit Go.Proofs.Ythdcofcikmeeeaa Go.Proofs.Ythdcofcikmeeeaa.MW Go.Proofs.YthdcofcikmeeeaaW.PrintWords Go.Proofs.YthdcofcikmeeeaaW.PrintLast Go.Proofs.YthdcofcikmeeeaaW.PrintMore
attribute [local go_sem] max2_int min2_int max_two min_two
set_option linter.unusedVariables false
set_option linter.unusedSimpArgs false

/-! ### toponymref06_Ordered: function 12 -/
def toponymref06_Ordered.l0 : Nat → Int → (List Int) → Option (Bool)
  | 0, _, _ => none
  | k + 1, x1, l0 => if x1 < (l0.length : Int) then (if 0 ≤ x1 then ((toponymref03_Class.f k (rd l0 x1)).bind fun t10 => (if t10 = 0 then ((toponymref06_Ordered.l0 k (wrap64 (x1 + 1)) l0)) else (if 0 ≤ (wrap64 (x1 - 1)) then (if (wrap64 (x1 - 1)) < (l0.length : Int) then ((toponymref03_Class.f k (rd l0 (wrap64 (x1 - 1)))).bind fun t24 => (if t24 > t10 then (some false) else ((toponymref06_Ordered.l0 k (wrap64 (x1 + 1)) l0)))) else (none)) else (none)))) else (none)) else (some true)
def toponymref06_Ordered.f (k : Nat) (l0 : List Int) : Option (Bool) := (toponymref06_Ordered.l0 k 1 l0)
theorem toponymref06_Ordered.mono_l : ∀ k, (∀ y0 y1, LeO (toponymref06_Ordered.l0 k y0 y1) (toponymref06_Ordered.l0 (k + 1) y0 y1))
  | 0 => fun _ _ r h => by simp [toponymref06_Ordered.l0] at h
  | k + 1 => by
    have ih0 := toponymref06_Ordered.mono_l k
    · intro y0 y1
      unfold toponymref06_Ordered.l0
      repeat' first
      | (with_reducible exact ih0 _ _)
      | (with_reducible exact toponymref03_Class.mono _ _)
      | (with_reducible exact LeO.refl _)
      | (with_reducible exact LeO.none _)
      | (with_reducible refine LeO.ite ?_ ?_)
      | (with_reducible refine LeO.bind ?_ (fun _ => ?_))
      | exact ih0 _ _
      | exact toponymref03_Class.mono _ _
      | exact LeO.none _
      | refine LeO.ite ?_ ?_
      | refine LeO.bind ?_ (fun _ => ?_)
theorem toponymref06_Ordered.mono : ∀ a0_ k, LeO (toponymref06_Ordered.f k a0_) (toponymref06_Ordered.f (k + 1) a0_) := by
  intro a0_ k
  have ih0 := toponymref06_Ordered.mono_l k
  unfold toponymref06_Ordered.f
  repeat' first
      | (with_reducible exact ih0 _ _)
      | (with_reducible exact toponymref03_Class.mono _ _)
      | (with_reducible exact LeO.refl _)
      | (with_reducible exact LeO.none _)
      | (with_reducible refine LeO.ite ?_ ?_)
      | (with_reducible refine LeO.bind ?_ (fun _ => ?_))
      | exact ih0 _ _
      | exact toponymref03_Class.mono _ _
      | exact LeO.none _
      | refine LeO.ite ?_ ?_
      | refine LeO.bind ?_ (fun _ => ?_)
set_option maxHeartbeats 8000000 in
set_option maxRecDepth 100000 in
theorem toponymref06_Ordered.calls (k : Nat) (P_ : Nat → Prop) (A0 : Option Addr) (c0 : Nat) (l0 : List Int) (r : Bool) (w : World) (hs0 : Kd.F (Kd.int .i32) w P_ A0 l0.length l0) (hc0 : l0.length ≤ c0) (h : toponymref06_Ordered.f k l0 = some r) :
    Calls Try.prog 12 #[.slice A0 l0.length c0] w (fun e w' => e = .returned (.bool r) ∧ Below w.heap.size w w') := by
  have HH := Aside0.mk (show ((toponymref06_Ordered.l0 k 1 l0)) = some r from h)
  clear h
  have HF0 := Aside0.mk (Kd.F_mono hs0 (fun k_ hk_ => (.inl hk_ : P_ k_ ∨ w.heap.size ≤ k_)))
  have HL0 := Aside0.mk hc0
  clear hs0 hc0
  have HB := Aside0.mk (Below.refl w.heap.size w)
  go_enter Try.func12, Try.ntmps12
  go_wp2
  go_loopg [3] k (fun kq u3 w' => ∃ (x1 : Int), u3 = .int .i64 x1 ∧ Aside0 ((toponymref06_Ordered.l0 kq x1 l0) = some r) ∧ Aside0 (kq ≤ k) ∧ Aside0 (Kd.F (Kd.int .i32) w' (fun k_ => (P_ k_ ∨ w.heap.size ≤ k_)) A0 l0.length l0) ∧ Aside0 (Below w.heap.size w w'))
  case atStart => exact ⟨1, (by first | rfl | (simp; done) | (simp [*]; done)), HH, ⟨Nat.le_refl _⟩, ⟨(Kd.F_mono (ok := (fun k_ => (P_ k_ ∨ w.heap.size ≤ k_))) HF0.out (fun k_ hk_ => hk_))⟩, ⟨HB.out⟩⟩
  case round =>
    clear HH
    clear HF0 HB
    obtain ⟨x1, rfl, HA, HK0, HF0, HB⟩ := hrel
    obtain ⟨w3, rfl⟩ : ∃ wo_ : World, wo_ = wr := ⟨_, rfl⟩
    cases gk with
    | zero => exact absurd HA.out (by simp [toponymref06_Ordered.l0])
    | succ k2 =>
      have H := HA.out
      clear HA
      simp only [toponymref06_Ordered.l0] at H
      have HH := Aside0.mk H
      clear H
      by_cases c4 : x1 < (l0.length : Int)
      · have H := HH.out
        rw [if_pos c4] at H
        replace HH := Aside0.mk H
        clear H
        have hk5 : (x1 < (l0.length : Int)) = True := eq_true c4
        have hk6 : decide (x1 < (l0.length : Int)) = true := decide_eq_true c4
        clear c4
        by_cases c7 : 0 ≤ x1
        · have H := HH.out
          rw [if_pos c7] at H
          replace HH := Aside0.mk H
          clear H
          have hk8 : decide (0 ≤ x1) = true := decide_eq_true c7
          clear c7
          have p9 : 0 ≤ (x1 : Int) := of_decide_eq_true (by first | (with_reducible assumption) | assumption)
          have q9 : x1 < (l0.length : Int) := of_decide_eq_true (by first | (with_reducible assumption) | assumption)
          obtain ⟨ad9, e9, hx9_0⟩ := Kd.at_int (Kd.F_now HF0.out) x1 p9 q9
          cases e9
          replace p9 := eq_true p9
          replace q9 := eq_true q9
          have H := HH.out
          replace H := Option.bind_eq_some_iff.mp H
          obtain ⟨t10, at_, H⟩ := H
          have At11 := Aside0.mk at_
          clear at_
          replace HH := Aside0.mk (show (if t10 = 0 then ((toponymref06_Ordered.l0 k2 (wrap64 (x1 + 1)) l0)) else (if 0 ≤ (wrap64 (x1 - 1)) then (if (wrap64 (x1 - 1)) < (l0.length : Int) then ((toponymref03_Class.f k2 (rd l0 (wrap64 (x1 - 1)))).bind fun t24 => (if t24 > t10 then (some false) else ((toponymref06_Ordered.l0 k2 (wrap64 (x1 + 1)) l0)))) else (none)) else (none))) = some r from H)
          clear H
          go_wp2_with (((with_reducible refine gate_callee (f := 20) rfl ?_); (try (refine gate_guard (by rfl) ?_; dsimp only)); refine goesL_ (some 15) rfl rfl Try.func20 (by kernel_rfl) rfl #[.int .i32 (rd l0 x1)] rfl (by (try simp only [List.map_toArray, List.map_cons, List.map_nil]); first | done | rfl | (simp only [List.length_drop, List.length_take]; rfl)) ?_; (with_reducible refine (toponymref03_Class.calls k2  (rd l0 x1) t10 _  At11.out).mono ?_); rintro e w12 ⟨rfl, hb⟩; refine ⟨_, rfl, ?_⟩); refine stop_ ?_)
          refine Stop.go ?_
          replace HF0 := Aside0.mk (Kd.F_below HF0.out hb)
          replace HB := Aside0.mk (below_step HB.out hb)
          clear hb
          clear hx9_0 p9 q9
          by_cases c13 : t10 = 0
          · have H := HH.out
            rw [if_pos c13] at H
            replace HH := Aside0.mk H
            clear H
            have hk14 : (t10 == 0) = true := beq_iff_eq.mpr c13
            have hk15 : (t10 != 0) = false := bne_eq_false_iff_eq.mpr c13
            clear c13
            go_wp2
            go_roundg k2
            case measure => have := HK0.out; omega
            case rel => exact ⟨wrap64 (x1 + 1), (by first | rfl | (simp; done) | (simp [*]; done)), HH, ⟨by have := HK0.out; omega⟩, ⟨(Kd.F_mono (ok := (fun k_ => (P_ k_ ∨ w.heap.size ≤ k_))) HF0.out (fun k_ hk_ => hk_))⟩, ⟨HB.out⟩⟩
          · have H := HH.out
            rw [if_neg c13] at H
            replace HH := Aside0.mk H
            clear H
            have hk16 : (t10 == 0) = false := beq_eq_false_iff_ne.mpr c13
            have hk17 : (t10 != 0) = true := bne_iff_ne.mpr c13
            clear c13
            by_cases c18 : 0 ≤ (wrap64 (x1 - 1))
            · have H := HH.out
              rw [if_pos c18] at H
              replace HH := Aside0.mk H
              clear H
              have hk19 : decide (0 ≤ (wrap64 (x1 - 1))) = true := decide_eq_true c18
              clear c18
              by_cases c20 : (wrap64 (x1 - 1)) < (l0.length : Int)
              · have H := HH.out
                rw [if_pos c20] at H
                replace HH := Aside0.mk H
                clear H
                have hk21 : ((wrap64 (x1 - 1)) < (l0.length : Int)) = True := eq_true c20
                have hk22 : decide ((wrap64 (x1 - 1)) < (l0.length : Int)) = true := decide_eq_true c20
                clear c20
                have p23 : 0 ≤ ((wrap64 (x1 - 1)) : Int) := of_decide_eq_true (by first | (with_reducible assumption) | assumption)
                have q23 : (wrap64 (x1 - 1)) < (l0.length : Int) := of_decide_eq_true (by first | (with_reducible assumption) | assumption)
                obtain ⟨ad23, e23, hx23_0⟩ := Kd.at_int (Kd.F_now HF0.out) (wrap64 (x1 - 1)) p23 q23
                cases e23
                replace p23 := eq_true p23
                replace q23 := eq_true q23
                have H := HH.out
                replace H := Option.bind_eq_some_iff.mp H
                obtain ⟨t24, at_, H⟩ := H
                have At25 := Aside0.mk at_
                clear at_
                replace HH := Aside0.mk (show (if t24 > t10 then (some false) else ((toponymref06_Ordered.l0 k2 (wrap64 (x1 + 1)) l0))) = some r from H)
                clear H
                go_wp2_with (((with_reducible refine gate_callee (f := 20) rfl ?_); (try (refine gate_guard (by rfl) ?_; dsimp only)); refine goesL_ (some 24) rfl rfl Try.func20 (by kernel_rfl) rfl #[.int .i32 (rd l0 (wrap64 (x1 - 1)))] rfl (by (try simp only [List.map_toArray, List.map_cons, List.map_nil]); first | done | rfl | (simp only [List.length_drop, List.length_take]; rfl)) ?_; (with_reducible refine (toponymref03_Class.calls k2  (rd l0 (wrap64 (x1 - 1))) t24 _  At25.out).mono ?_); rintro e w26 ⟨rfl, hb⟩; refine ⟨_, rfl, ?_⟩); refine stop_ ?_)
                refine Stop.go ?_
                replace HF0 := Aside0.mk (Kd.F_below HF0.out hb)
                replace HB := Aside0.mk (below_step HB.out hb)
                clear hb
                clear hx23_0 p23 q23
                by_cases c27 : t24 > t10
                · have H := HH.out
                  rw [if_pos c27] at H
                  replace HH := Aside0.mk H
                  clear H
                  have hk28 : decide (t10 < t24) = true := decide_eq_true c27
                  clear c27
                  have H := HH.out
                  obtain rfl := Option.some.inj H
                  clear HH
                  go_wp2
                  go_ret
                  exact ⟨by first | rfl | (simp; done) | (simp [*]; done), HB.out⟩
                · have H := HH.out
                  rw [if_neg c27] at H
                  replace HH := Aside0.mk H
                  clear H
                  have hk29 : decide (t10 < t24) = false := decide_eq_false c27
                  clear c27
                  go_wp2
                  go_roundg k2
                  case measure => have := HK0.out; omega
                  case rel => exact ⟨wrap64 (x1 + 1), (by first | rfl | (simp; done) | (simp [*]; done)), HH, ⟨by have := HK0.out; omega⟩, ⟨(Kd.F_mono (ok := (fun k_ => (P_ k_ ∨ w.heap.size ≤ k_))) HF0.out (fun k_ hk_ => hk_))⟩, ⟨HB.out⟩⟩
              · exact absurd HH.out (by rw [if_neg c20]; simp)
            · exact absurd HH.out (by rw [if_neg c18]; simp)
        · exact absurd HH.out (by rw [if_neg c7]; simp)
      · have H := HH.out
        rw [if_neg c4] at H
        replace HH := Aside0.mk H
        clear H
        have hk34 : (x1 < (l0.length : Int)) = False := eq_false c4
        have hk35 : decide (x1 < (l0.length : Int)) = false := decide_eq_false c4
        clear c4
        have H := HH.out
        obtain rfl := Option.some.inj H
        clear HH
        go_wp2
        go_ret
        exact ⟨by first | rfl | (simp; done) | (simp [*]; done), HB.out⟩

end Go.Proofs.Ythdcofcikmeeeaa.GA
