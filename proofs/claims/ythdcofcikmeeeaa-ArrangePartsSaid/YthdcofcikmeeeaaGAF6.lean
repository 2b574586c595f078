-- written by wip/gen.py, a program of this session
import Derived.Test.YthdcofcikmeeeaaGA0
import Derived.Test.YthdcofcikmeeeaaGAF13
import Derived.Test.YthdcofcikmeeeaaGAF16
import Derived.Test.YthdcofcikmeeeaaGAF7
import Derived.Test.YthdcofcikmeeeaaGAF8
import Derived.Test.YthdcofcikmeeeaaGAF9
namespace Go.Proofs.Ythdcofcikmeeeaa.GA
open Go.RowKit Go.Proofs.Ythdcofcikmeeeaa Go.Proofs.Ythdcofcikmeeeaa.MW Go.Proofs.YthdcofcikmeeeaaW.PrintWords Go.Proofs.YthdcofcikmeeeaaW.PrintLast Go.Proofs.YthdcofcikmeeeaaW.PrintMore
attribute [local go_sem] max2_int min2_int max_two min_two
set_option linter.unusedVariables false
set_option linter.unusedSimpArgs false

/-! ### toponymlaw06_ArrangeParts: function 6 -/
mutual
def toponymlaw06_ArrangeParts.l0 : Nat → (List Int) → (List Int) → Int → (List Int) → (List (List Int)) → Option (Bool)
  | 0, _, _, _, _, _ => none
  | k + 1, x17, x20, x23, l0, t9 => if x23 < (t9.length : Int) then (if 0 ≤ x23 then (if ((rd_L1 t9 x23).length : Int) = 0 then (some false) else ((toponymlaw06_ArrangeParts.l1 k 0 l0 t9 x17 x20 x23))) else (none)) else ((arrange_Order.f k l0).bind fun t113 => (if (t113.length : Int) = (l0.length : Int) then ((toponymlaw06_ArrangeParts.l2 k 0 l0 t113 x17 x20)) else (some false)))
def toponymlaw06_ArrangeParts.l1 : Nat → Int → (List Int) → (List (List Int)) → (List Int) → (List Int) → Int → Option (Bool)
  | 0, _, _, _, _, _, _ => none
  | k + 1, x38, l0, t9, x17, x20, x23 => if 0 ≤ x23 then (if x23 < (t9.length : Int) then (if x38 < ((rd_L1 t9 x23).length : Int) then (if x38 > 0 then (if 0 ≤ x38 then ((chars_Class.f (rd (rd_L1 t9 x23) x38)).bind fun t55 => (if ((t55 == 0) != (x38 == 0)) = true then (some false) else ((toponymlaw06_ArrangeParts.l1 k (wrap64 (x38 + 1)) l0 t9 x17 x20 x23)))) else (none)) else (if x23 > 0 then (if 0 ≤ x38 then ((chars_Class.f (rd (rd_L1 t9 x23) x38)).bind fun t73 => (if ((t73 == 0) != (x38 == 0)) = true then (some false) else ((toponymlaw06_ArrangeParts.l1 k (wrap64 (x38 + 1)) l0 t9 x17 x20 x23)))) else (none)) else ((toponymlaw06_ArrangeParts.l1 k (wrap64 (x38 + 1)) l0 t9 x17 x20 x23)))) else (if x17.length + (rd_L1 t9 x23).length < 35184372088832 then ((some (x17 ++ (rd_L1 t9 x23) : List Int)).bind fun y89 => ((arrange_Order.f k (rd_L1 t9 x23)).bind fun t94 => (if x20.length + t94.length < 35184372088832 then ((some (x20 ++ t94 : List Int)).bind fun y103 => ((toponymlaw06_ArrangeParts.l0 k y89 y103 (wrap64 (x23 + 1)) l0 t9))) else (none)))) else (none))) else (none)) else (none)
def toponymlaw06_ArrangeParts.l2 : Nat → Int → (List Int) → (List Int) → (List Int) → (List Int) → Option (Bool)
  | 0, _, _, _, _, _ => none
  | k + 1, x123, l0, t113, x17, x20 => if x123 < (l0.length : Int) then (if 0 ≤ x123 then ((chars_Class.f (rd l0 x123)).bind fun t132 => (if t132 = 0 then (if x123 < (t113.length : Int) then (if (rd t113 x123) = (rd l0 x123) then ((toponymlaw06_ArrangeParts.l2 k (wrap64 (x123 + 1)) l0 t113 x17 x20)) else (some false)) else (none)) else ((toponymlaw06_ArrangeParts.l2 k (wrap64 (x123 + 1)) l0 t113 x17 x20)))) else (none)) else ((toponymref01_Same.f k x17 l0).bind fun t157 => (if t157 = true then ((toponymref01_Same.f k x20 t113).bind fun t169 => (if t169 = true then ((toponymlaw06_awake.f k ).bind fun t173 => (some t173)) else (some false))) else (some false)))
end
def toponymlaw06_ArrangeParts.f (k : Nat) (l0 : List Int) : Option (Bool) := if (l0.length : Int) > 400 then ((toponymlaw06_awake.f k ).bind fun t4 => (some t4)) else ((arrange_Runs.f k l0).bind fun t9 => ((toponymlaw06_ArrangeParts.l0 k ([] : List Int) ([] : List Int) 0 l0 t9)))
theorem toponymlaw06_ArrangeParts.mono_l : ∀ k, (∀ y0 y1 y2 y3 y4, LeO (toponymlaw06_ArrangeParts.l0 k y0 y1 y2 y3 y4) (toponymlaw06_ArrangeParts.l0 (k + 1) y0 y1 y2 y3 y4)) ∧ (∀ y0 y1 y2 y3 y4 y5, LeO (toponymlaw06_ArrangeParts.l1 k y0 y1 y2 y3 y4 y5) (toponymlaw06_ArrangeParts.l1 (k + 1) y0 y1 y2 y3 y4 y5)) ∧ (∀ y0 y1 y2 y3 y4, LeO (toponymlaw06_ArrangeParts.l2 k y0 y1 y2 y3 y4) (toponymlaw06_ArrangeParts.l2 (k + 1) y0 y1 y2 y3 y4))
  | 0 => ⟨fun _ _ _ _ _ r h => by simp [toponymlaw06_ArrangeParts.l0] at h, fun _ _ _ _ _ _ r h => by simp [toponymlaw06_ArrangeParts.l1] at h, fun _ _ _ _ _ r h => by simp [toponymlaw06_ArrangeParts.l2] at h⟩
  | k + 1 => by
    obtain ⟨ih0, ih1, ih2⟩ := toponymlaw06_ArrangeParts.mono_l k
    refine ⟨?_, ?_, ?_⟩
    · intro y0 y1 y2 y3 y4
      unfold toponymlaw06_ArrangeParts.l0
      repeat' first
      | (with_reducible exact ih0 _ _ _ _ _)
      | (with_reducible exact ih1 _ _ _ _ _ _)
      | (with_reducible exact ih2 _ _ _ _ _)
      | (with_reducible exact arrange_Order.mono _ _)
      | (with_reducible exact arrange_Runs.mono _ _)
      | (with_reducible exact toponymlaw06_awake.mono _)
      | (with_reducible exact toponymref01_Same.mono _ _ _)
      | (with_reducible exact LeO.refl _)
      | (with_reducible exact LeO.none _)
      | (with_reducible refine LeO.ite ?_ ?_)
      | (with_reducible refine LeO.bind ?_ (fun _ => ?_))
      | exact ih0 _ _ _ _ _
      | exact ih1 _ _ _ _ _ _
      | exact ih2 _ _ _ _ _
      | exact arrange_Order.mono _ _
      | exact arrange_Runs.mono _ _
      | exact toponymlaw06_awake.mono _
      | exact toponymref01_Same.mono _ _ _
      | exact LeO.none _
      | refine LeO.ite ?_ ?_
      | refine LeO.bind ?_ (fun _ => ?_)
    · intro y0 y1 y2 y3 y4 y5
      unfold toponymlaw06_ArrangeParts.l1
      repeat' first
      | (with_reducible exact ih0 _ _ _ _ _)
      | (with_reducible exact ih1 _ _ _ _ _ _)
      | (with_reducible exact ih2 _ _ _ _ _)
      | (with_reducible exact arrange_Order.mono _ _)
      | (with_reducible exact arrange_Runs.mono _ _)
      | (with_reducible exact toponymlaw06_awake.mono _)
      | (with_reducible exact toponymref01_Same.mono _ _ _)
      | (with_reducible exact LeO.refl _)
      | (with_reducible exact LeO.none _)
      | (with_reducible refine LeO.ite ?_ ?_)
      | (with_reducible refine LeO.bind ?_ (fun _ => ?_))
      | exact ih0 _ _ _ _ _
      | exact ih1 _ _ _ _ _ _
      | exact ih2 _ _ _ _ _
      | exact arrange_Order.mono _ _
      | exact arrange_Runs.mono _ _
      | exact toponymlaw06_awake.mono _
      | exact toponymref01_Same.mono _ _ _
      | exact LeO.none _
      | refine LeO.ite ?_ ?_
      | refine LeO.bind ?_ (fun _ => ?_)
    · intro y0 y1 y2 y3 y4
      unfold toponymlaw06_ArrangeParts.l2
      repeat' first
      | (with_reducible exact ih0 _ _ _ _ _)
      | (with_reducible exact ih1 _ _ _ _ _ _)
      | (with_reducible exact ih2 _ _ _ _ _)
      | (with_reducible exact arrange_Order.mono _ _)
      | (with_reducible exact arrange_Runs.mono _ _)
      | (with_reducible exact toponymlaw06_awake.mono _)
      | (with_reducible exact toponymref01_Same.mono _ _ _)
      | (with_reducible exact LeO.refl _)
      | (with_reducible exact LeO.none _)
      | (with_reducible refine LeO.ite ?_ ?_)
      | (with_reducible refine LeO.bind ?_ (fun _ => ?_))
      | exact ih0 _ _ _ _ _
      | exact ih1 _ _ _ _ _ _
      | exact ih2 _ _ _ _ _
      | exact arrange_Order.mono _ _
      | exact arrange_Runs.mono _ _
      | exact toponymlaw06_awake.mono _
      | exact toponymref01_Same.mono _ _ _
      | exact LeO.none _
      | refine LeO.ite ?_ ?_
      | refine LeO.bind ?_ (fun _ => ?_)
theorem toponymlaw06_ArrangeParts.mono : ∀ a0_ k, LeO (toponymlaw06_ArrangeParts.f k a0_) (toponymlaw06_ArrangeParts.f (k + 1) a0_) := by
  intro a0_ k
  obtain ⟨ih0, ih1, ih2⟩ := toponymlaw06_ArrangeParts.mono_l k
  unfold toponymlaw06_ArrangeParts.f
  repeat' first
      | (with_reducible exact ih0 _ _ _ _ _)
      | (with_reducible exact ih1 _ _ _ _ _ _)
      | (with_reducible exact ih2 _ _ _ _ _)
      | (with_reducible exact arrange_Order.mono _ _)
      | (with_reducible exact arrange_Runs.mono _ _)
      | (with_reducible exact toponymlaw06_awake.mono _)
      | (with_reducible exact toponymref01_Same.mono _ _ _)
      | (with_reducible exact LeO.refl _)
      | (with_reducible exact LeO.none _)
      | (with_reducible refine LeO.ite ?_ ?_)
      | (with_reducible refine LeO.bind ?_ (fun _ => ?_))
      | exact ih0 _ _ _ _ _
      | exact ih1 _ _ _ _ _ _
      | exact ih2 _ _ _ _ _
      | exact arrange_Order.mono _ _
      | exact arrange_Runs.mono _ _
      | exact toponymlaw06_awake.mono _
      | exact toponymref01_Same.mono _ _ _
      | exact LeO.none _
      | refine LeO.ite ?_ ?_
      | refine LeO.bind ?_ (fun _ => ?_)
set_option maxHeartbeats 8000000 in
set_option maxRecDepth 100000 in
theorem toponymlaw06_ArrangeParts.calls (k : Nat) (P_ : Nat → Prop) (A0 : Option Addr) (c0 : Nat) (l0 : List Int) (r : Bool) (w : World) (hs0 : Kd.F (Kd.int .i32) w P_ A0 l0.length l0) (hc0 : l0.length ≤ c0) (h : toponymlaw06_ArrangeParts.f k l0 = some r) :
    Calls Try.prog 6 #[.slice A0 l0.length c0] w (fun e w' => e = .returned (.bool r) ∧ Below w.heap.size w w') := by
  have HH := Aside0.mk (show (if (l0.length : Int) > 400 then ((toponymlaw06_awake.f k ).bind fun t4 => (some t4)) else ((arrange_Runs.f k l0).bind fun t9 => ((toponymlaw06_ArrangeParts.l0 k ([] : List Int) ([] : List Int) 0 l0 t9)))) = some r from h)
  clear h
  have HF0 := Aside0.mk (Kd.F_mono hs0 (fun k_ hk_ => (.inl hk_ : P_ k_ ∨ w.heap.size ≤ k_)))
  have HL0 := Aside0.mk hc0
  clear hs0 hc0
  have HB := Aside0.mk (Below.refl w.heap.size w)
  go_enter Try.func6, Try.ntmps6
  by_cases c1 : (l0.length : Int) > 400
  · have H := HH.out
    rw [if_pos c1] at H
    replace HH := Aside0.mk H
    clear H
    have hk2 : decide (400 < (l0.length : Int)) = true := decide_eq_true c1
    have hk3 : decide (400 < l0.length) = true := decide_eq_true (by omega)
    clear c1
    have H := HH.out
    replace H := Option.bind_eq_some_iff.mp H
    obtain ⟨t4, at_, H⟩ := H
    have At5 := Aside0.mk at_
    clear at_
    replace HH := Aside0.mk (show (some t4) = some r from H)
    clear H
    go_wp2_with (((with_reducible refine gate_callee (f := 7) rfl ?_); (try (refine gate_guard (by rfl) ?_; dsimp only)); refine goesL_ (some 13) rfl rfl Try.func7 (by kernel_rfl) rfl #[] rfl (by (try simp only [List.map_toArray, List.map_cons, List.map_nil]); first | done | rfl | (simp only [List.length_drop, List.length_take]; rfl)) ?_; (with_reducible refine (toponymlaw06_awake.calls k  t4 _  At5.out).mono ?_); rintro e w6 ⟨rfl, hb⟩; refine ⟨_, rfl, ?_⟩); refine stop_ ?_)
    refine Stop.go ?_
    replace HF0 := Aside0.mk (Kd.F_below HF0.out hb)
    replace HB := Aside0.mk (below_step HB.out hb)
    clear hb
    have H := HH.out
    obtain rfl := Option.some.inj H
    clear HH
    go_wp2
    go_ret
    exact ⟨by first | rfl | (simp; done) | (simp [*]; done), HB.out⟩
  · have H := HH.out
    rw [if_neg c1] at H
    replace HH := Aside0.mk H
    clear H
    have hk7 : decide (400 < (l0.length : Int)) = false := decide_eq_false c1
    have hk8 : decide (400 < l0.length) = false := decide_eq_false (by omega)
    clear c1
    have H := HH.out
    replace H := Option.bind_eq_some_iff.mp H
    obtain ⟨t9, at_, H⟩ := H
    have At10 := Aside0.mk at_
    clear at_
    replace HH := Aside0.mk (show ((toponymlaw06_ArrangeParts.l0 k ([] : List Int) ([] : List Int) 0 l0 t9)) = some r from H)
    clear H
    go_wp2_with (((with_reducible refine gate_callee (f := 13) rfl ?_); (try (refine gate_guard (by rfl) ?_; dsimp only)); refine goesL_ (some 15) rfl rfl Try.func13 (by kernel_rfl) rfl #[.slice A0 l0.length c0] rfl (by (try simp only [List.map_toArray, List.map_cons, List.map_nil]); first | done | rfl | (simp only [List.length_drop, List.length_take]; rfl)) ?_; (with_reducible refine (arrange_Runs.calls k (fun k_ => (P_ k_ ∨ w.heap.size ≤ k_)) _ _ l0 t9 _ (Kd.F_mono (ok := (fun k_ => (P_ k_ ∨ w.heap.size ≤ k_))) HF0.out (fun k_ hk_ => hk_)) HL0.out At10.out).mono ?_); rintro e w11 ⟨v12, rfl, hn12, hb⟩; refine ⟨_, rfl, ?_⟩); refine stop_ ?_)
    refine Stop.go ?_
    have hba := Kd.N_base hn12
    have HN12 := Aside0.mk (Kd.N_mono (Kd.N_lower hn12 (below_size HB.out)) (fun k_ hk_ => hk_.elim (fun h_ => h_) (fun h_ => .inr (Nat.le_trans (below_size HB.out) h_))) : Kd.N (Kd.slice 21 (Kd.int .i32)) 22 w11 w.heap.size (fun k_ => (P_ k_ ∨ w.heap.size ≤ k_)) v12 t9)
    replace HF0 := Aside0.mk (Kd.F_mono (Kd.F_elder' (ok := (fun k_ => (P_ k_ ∨ w.heap.size ≤ k_))) HF0.out hba hb) (fun k_ hk_ => ⟨hk_.1, hk_.2⟩) : Kd.F (Kd.int .i32) _ (fun k_ => (P_ k_ ∨ w.heap.size ≤ k_) ∧ some k_ ≠ (v12 : Value).ownBlock) _ _ _)
    replace HB := Aside0.mk (below_step HB.out hb)
    clear hn12 hba hb
    obtain ⟨A13, cp14, he_⟩ := Kd.N_slice HN12.out
    subst he_
    have HL16 := Aside0.mk (Kd.N_reads' HN12.out).2.1
    have HF15 := Aside0.mk (Kd.N_F HN12.out)
    clear HN12
    replace HF0 := Aside0.mk (Kd.F_mono (ok := (fun k_ => (P_ k_ ∨ w.heap.size ≤ k_) ∧ some k_ ≠ ((.slice A13 t9.length cp14) : Value).ownBlock)) HF0.out (fun k_ hk_ => hk_.1) : Kd.F (Kd.int .i32) _ (fun k_ => (P_ k_ ∨ w.heap.size ≤ k_)) _ _ _)
    go_wp2
    go_loopg [3, 4, 6] k (fun kq u3 u4 u6 w' => ∃ (x17 : List Int) (x20 : List Int) (x23 : Int), u6 = .int .i64 x23 ∧ Aside0 ((toponymlaw06_ArrangeParts.l0 kq x17 x20 x23 l0 t9) = some r) ∧ Aside0 (kq ≤ k) ∧ Aside0 (Kd.F (Kd.int .i32) w' (fun k_ => (P_ k_ ∨ w.heap.size ≤ k_) ∧ some k_ ≠ (u3 : Value).ownBlock ∧ some k_ ≠ (u4 : Value).ownBlock) A0 l0.length l0) ∧ Aside0 (Kd.F (Kd.slice 21 (Kd.int .i32)) w' (fun k_ => (P_ k_ ∨ w.heap.size ≤ k_) ∧ some k_ ≠ (u3 : Value).ownBlock ∧ some k_ ≠ (u4 : Value).ownBlock) A13 t9.length t9) ∧ Aside0 (Kd.N (Kd.int .i32) 21 w' w.heap.size (fun k_ => (P_ k_ ∨ w.heap.size ≤ k_) ∧ some k_ ≠ (u4 : Value).ownBlock) u3 x17) ∧ Aside0 (Kd.N (Kd.int .i32) 21 w' w.heap.size (fun k_ => (P_ k_ ∨ w.heap.size ≤ k_) ∧ some k_ ≠ (u3 : Value).ownBlock) u4 x20) ∧ Aside0 (Below w.heap.size w w'))
    case atStart => exact ⟨([] : List Int), ([] : List Int), 0, (by first | rfl | (simp; done) | (simp [*]; done)), HH, ⟨Nat.le_refl _⟩, ⟨(Kd.F_mono (ok := (fun k_ => (P_ k_ ∨ w.heap.size ≤ k_))) HF0.out (fun k_ hk_ => ⟨hk_, (by simp [Value.ownBlock]), (by simp [Value.ownBlock])⟩))⟩, ⟨(Kd.F_mono (ok := (fun k_ => (P_ k_ ∨ w.heap.size ≤ k_))) HF15.out (fun k_ hk_ => ⟨hk_, (by simp [Value.ownBlock]), (by simp [Value.ownBlock])⟩))⟩, ⟨Kd.N_nil _ _ _ _ _⟩, ⟨Kd.N_nil _ _ _ _ _⟩, ⟨HB.out⟩⟩
    case round =>
      clear hk7
      clear hk8
      clear HH
      clear HF0 HF15 HB
      obtain ⟨x17, x20, x23, rfl, HA, HK0, HF0, HF15, HN19, HN22, HB⟩ := hrel
      obtain ⟨v18, rfl⟩ : ∃ z_ : Value, z_ = u3 := ⟨_, rfl⟩
      obtain ⟨v21, rfl⟩ : ∃ z_ : Value, z_ = u4 := ⟨_, rfl⟩
      obtain ⟨w25, rfl⟩ : ∃ wo_ : World, wo_ = wr := ⟨_, rfl⟩
      cases gk with
      | zero => exact absurd HA.out (by simp [toponymlaw06_ArrangeParts.l0])
      | succ k24 =>
        have H := HA.out
        clear HA
        simp only [toponymlaw06_ArrangeParts.l0] at H
        have HH := Aside0.mk H
        clear H
        by_cases c26 : x23 < (t9.length : Int)
        · have H := HH.out
          rw [if_pos c26] at H
          replace HH := Aside0.mk H
          clear H
          have hk27 : (x23 < (t9.length : Int)) = True := eq_true c26
          have hk28 : decide (x23 < (t9.length : Int)) = true := decide_eq_true c26
          clear c26
          by_cases c29 : 0 ≤ x23
          · have H := HH.out
            rw [if_pos c29] at H
            replace HH := Aside0.mk H
            clear H
            have hk30 : decide (0 ≤ x23) = true := decide_eq_true c29
            clear c29
            have p31 : 0 ≤ (x23 : Int) := of_decide_eq_true (by first | (with_reducible assumption) | assumption)
            have q31 : x23 < (t9.length : Int) := of_decide_eq_true (by first | (with_reducible assumption) | assumption)
            obtain ⟨ad31, A31_0, c31_0, e31, hx31_0, hl31_0, hi31_0⟩ := atF_L1 HF15.out x23 p31 q31
            cases e31
            have HF31_0 := Aside0.mk hi31_0
            have HL31_0 := Aside0.mk hl31_0
            clear hi31_0 hl31_0
            replace p31 := eq_true p31
            replace q31 := eq_true q31
            by_cases c32 : ((rd_L1 t9 x23).length : Int) = 0
            · have H := HH.out
              rw [if_pos c32] at H
              replace HH := Aside0.mk H
              clear H
              have hk33 : (((rd_L1 t9 x23).length : Int) == 0) = true := beq_iff_eq.mpr c32
              have hk34 : (((rd_L1 t9 x23).length : Int) != 0) = false := bne_eq_false_iff_eq.mpr c32
              clear c32
              have H := HH.out
              obtain rfl := Option.some.inj H
              clear HH
              go_wp2
              go_ret
              exact ⟨by first | rfl | (simp; done) | (simp [*]; done), HB.out⟩
            · have H := HH.out
              rw [if_neg c32] at H
              replace HH := Aside0.mk H
              clear H
              have hk35 : (((rd_L1 t9 x23).length : Int) == 0) = false := beq_eq_false_iff_ne.mpr c32
              have hk36 : (((rd_L1 t9 x23).length : Int) != 0) = true := bne_iff_ne.mpr c32
              have hk37 : ¬ ((rd_L1 t9 x23) = []) := fun h_ => c32 (by rw [h_]; rfl)
              clear c32
              go_wp2
              go_loopg [7] k24 (fun kq u7 w' => ∃ (x38 : Int), u7 = .int .i64 x38 ∧ Aside0 ((toponymlaw06_ArrangeParts.l1 kq x38 l0 t9 x17 x20 x23) = some r) ∧ Aside0 (kq ≤ k24) ∧ Aside0 (Kd.F (Kd.int .i32) w' (fun k_ => (P_ k_ ∨ w.heap.size ≤ k_) ∧ some k_ ≠ (v18 : Value).ownBlock ∧ some k_ ≠ (v21 : Value).ownBlock) A0 l0.length l0) ∧ Aside0 (Kd.F (Kd.slice 21 (Kd.int .i32)) w' (fun k_ => (P_ k_ ∨ w.heap.size ≤ k_) ∧ some k_ ≠ (v18 : Value).ownBlock ∧ some k_ ≠ (v21 : Value).ownBlock) (some ad31) t9.length t9) ∧ Aside0 (Kd.N (Kd.int .i32) 21 w' w.heap.size (fun k_ => (P_ k_ ∨ w.heap.size ≤ k_) ∧ some k_ ≠ (v21 : Value).ownBlock) v18 x17) ∧ Aside0 (Kd.N (Kd.int .i32) 21 w' w.heap.size (fun k_ => (P_ k_ ∨ w.heap.size ≤ k_) ∧ some k_ ≠ (v18 : Value).ownBlock) v21 x20) ∧ Aside0 (Below w.heap.size w w'))
              case atStart => exact ⟨0, (by first | rfl | (simp; done) | (simp [*]; done)), HH, ⟨Nat.le_refl _⟩, ⟨(Kd.F_mono (ok := (fun k_ => (P_ k_ ∨ w.heap.size ≤ k_) ∧ some k_ ≠ (v18 : Value).ownBlock ∧ some k_ ≠ (v21 : Value).ownBlock)) HF0.out (fun k_ hk_ => ⟨hk_.1, hk_.2.1, hk_.2.2⟩))⟩, ⟨(Kd.F_mono (ok := (fun k_ => (P_ k_ ∨ w.heap.size ≤ k_) ∧ some k_ ≠ (v18 : Value).ownBlock ∧ some k_ ≠ (v21 : Value).ownBlock)) HF15.out (fun k_ hk_ => ⟨hk_.1, hk_.2.1, hk_.2.2⟩))⟩, ⟨(Kd.N_mono (ok := (fun k_ => (P_ k_ ∨ w.heap.size ≤ k_) ∧ some k_ ≠ (v21 : Value).ownBlock)) HN19.out (fun k_ hk_ => ⟨hk_.1, hk_.2⟩))⟩, ⟨(Kd.N_mono (ok := (fun k_ => (P_ k_ ∨ w.heap.size ≤ k_) ∧ some k_ ≠ (v18 : Value).ownBlock)) HN22.out (fun k_ hk_ => ⟨hk_.1, hk_.2⟩))⟩, ⟨HB.out⟩⟩
              case round =>
                clear hx31_0 p31 q31
                clear hk27
                clear hk28
                clear hk30
                clear hk35
                clear hk36
                clear hk37
                clear HH
                clear HF0 HF15 HF31_0 HN19 HN22 HB
                obtain ⟨x38, rfl, HA, HK1, HF0, HF15, HN19, HN22, HB⟩ := hrel
                obtain ⟨w40, rfl⟩ : ∃ wo_ : World, wo_ = wr := ⟨_, rfl⟩
                cases gk with
                | zero => exact absurd HA.out (by simp [toponymlaw06_ArrangeParts.l1])
                | succ k39 =>
                  have H := HA.out
                  clear HA
                  simp only [toponymlaw06_ArrangeParts.l1] at H
                  have HH := Aside0.mk H
                  clear H
                  by_cases c41 : 0 ≤ x23
                  · have H := HH.out
                    rw [if_pos c41] at H
                    replace HH := Aside0.mk H
                    clear H
                    have hk42 : decide (0 ≤ x23) = true := decide_eq_true c41
                    clear c41
                    by_cases c43 : x23 < (t9.length : Int)
                    · have H := HH.out
                      rw [if_pos c43] at H
                      replace HH := Aside0.mk H
                      clear H
                      have hk44 : (x23 < (t9.length : Int)) = True := eq_true c43
                      have hk45 : decide (x23 < (t9.length : Int)) = true := decide_eq_true c43
                      clear c43
                      have p46 : 0 ≤ (x23 : Int) := of_decide_eq_true (by first | (with_reducible assumption) | assumption)
                      have q46 : x23 < (t9.length : Int) := of_decide_eq_true (by first | (with_reducible assumption) | assumption)
                      obtain ⟨ad46, A46_0, c46_0, e46, hx46_0, hl46_0, hi46_0⟩ := atF_L1 HF15.out x23 p46 q46
                      cases e46
                      have HF46_0 := Aside0.mk hi46_0
                      have HL46_0 := Aside0.mk hl46_0
                      clear hi46_0 hl46_0
                      replace p46 := eq_true p46
                      replace q46 := eq_true q46
                      by_cases c47 : x38 < ((rd_L1 t9 x23).length : Int)
                      · have H := HH.out
                        rw [if_pos c47] at H
                        replace HH := Aside0.mk H
                        clear H
                        have hk48 : (x38 < ((rd_L1 t9 x23).length : Int)) = True := eq_true c47
                        have hk49 : decide (x38 < ((rd_L1 t9 x23).length : Int)) = true := decide_eq_true c47
                        clear c47
                        by_cases c50 : x38 > 0
                        · have H := HH.out
                          rw [if_pos c50] at H
                          replace HH := Aside0.mk H
                          clear H
                          have hk51 : decide (0 < x38) = true := decide_eq_true c50
                          clear c50
                          by_cases c52 : 0 ≤ x38
                          · have H := HH.out
                            rw [if_pos c52] at H
                            replace HH := Aside0.mk H
                            clear H
                            have hk53 : decide (0 ≤ x38) = true := decide_eq_true c52
                            clear c52
                            have p54 : 0 ≤ (x38 : Int) := of_decide_eq_true (by first | (with_reducible assumption) | assumption)
                            have q54 : x38 < ((rd_L1 t9 x23).length : Int) := of_decide_eq_true (by first | (with_reducible assumption) | assumption)
                            obtain ⟨ad54, e54, hx54_0⟩ := Kd.at_int (Kd.F_now HF46_0.out) x38 p54 q54
                            cases e54
                            replace p54 := eq_true p54
                            replace q54 := eq_true q54
                            have H := HH.out
                            replace H := Option.bind_eq_some_iff.mp H
                            obtain ⟨t55, at_, H⟩ := H
                            have At56 := Aside0.mk at_
                            clear at_
                            replace HH := Aside0.mk (show (if ((t55 == 0) != (x38 == 0)) = true then (some false) else ((toponymlaw06_ArrangeParts.l1 k39 (wrap64 (x38 + 1)) l0 t9 x17 x20 x23))) = some r from H)
                            clear H
                            go_wp2_with (((with_reducible refine gate_callee (f := 16) rfl ?_); (try (refine gate_guard (by rfl) ?_; dsimp only)); refine goesL_ (some 51) rfl rfl Try.func16 (by kernel_rfl) rfl #[.int .i32 (rd (rd_L1 t9 x23) x38)] rfl (by (try simp only [List.map_toArray, List.map_cons, List.map_nil]); first | done | rfl | (simp only [List.length_drop, List.length_take]; rfl)) ?_; (with_reducible refine (chars_Class.calls  (rd (rd_L1 t9 x23) x38) t55 _  At56.out).mono ?_); rintro e w' ⟨rfl, ⟨nd, rfl⟩⟩; refine ⟨_, rfl, ?_⟩); refine stop_ ?_)
                            refine Stop.go ?_
                            by_cases c58 : ((t55 == 0) != (x38 == 0)) = true
                            · have H := HH.out
                              rw [if_pos c58] at H
                              replace HH := Aside0.mk H
                              clear H
                              have hk59 : ((t55 == 0) != (x38 == 0)) = true := c58
                              try have hk60 : decide ((t55 == 0) = (x38 == 0)) = false := by simpa using c58
                              try have hk61 : ((t55 == 0) == (x38 == 0)) = false := by simpa using c58
                              try have hk62 : ¬ ((t55 == 0) = (x38 == 0)) := by simpa using c58
                              clear c58
                              have H := HH.out
                              obtain rfl := Option.some.inj H
                              clear HH
                              go_wp2
                              go_ret
                              exact ⟨by first | rfl | (simp; done) | (simp [*]; done), (by repeat (first | (with_reducible first | exact HB.out | apply below_alloc | apply pw_below_drewN | apply below_drew1) | exact HB.out))⟩
                            · have H := HH.out
                              rw [if_neg c58] at H
                              replace HH := Aside0.mk H
                              clear H
                              have hk63 : ((t55 == 0) != (x38 == 0)) = false := by simpa using c58
                              try have hk64 : decide ((t55 == 0) = (x38 == 0)) = true := by simpa using c58
                              try have hk65 : ((t55 == 0) == (x38 == 0)) = true := by simpa using c58
                              clear c58
                              go_wp2
                              go_roundg k39
                              case measure => have := HK0.out; have := HK1.out; omega
                              case rel => exact ⟨wrap64 (x38 + 1), (by first | rfl | (simp; done) | (simp [*]; done)), HH, ⟨by have := HK0.out; have := HK1.out; omega⟩, ⟨(Kd.F_mono (ok := (fun k_ => (P_ k_ ∨ w.heap.size ≤ k_) ∧ some k_ ≠ (v18 : Value).ownBlock ∧ some k_ ≠ (v21 : Value).ownBlock)) (by (with_reducible repeat (first | apply Kd.F_alloc | apply Kd.F_drewN | apply Kd.F_drew)); exact HF0.out) (fun k_ hk_ => ⟨hk_.1, hk_.2.1, hk_.2.2⟩))⟩, ⟨(Kd.F_mono (ok := (fun k_ => (P_ k_ ∨ w.heap.size ≤ k_) ∧ some k_ ≠ (v18 : Value).ownBlock ∧ some k_ ≠ (v21 : Value).ownBlock)) (by (with_reducible repeat (first | apply Kd.F_alloc | apply Kd.F_drewN | apply Kd.F_drew)); exact HF15.out) (fun k_ hk_ => ⟨hk_.1, hk_.2.1, hk_.2.2⟩))⟩, ⟨(Kd.N_mono (ok := (fun k_ => (P_ k_ ∨ w.heap.size ≤ k_) ∧ some k_ ≠ (v21 : Value).ownBlock)) (by (with_reducible repeat (first | apply Kd.N_alloc | apply Kd.N_drewN | apply Kd.N_drew)); exact HN19.out) (fun k_ hk_ => ⟨hk_.1, hk_.2⟩))⟩, ⟨(Kd.N_mono (ok := (fun k_ => (P_ k_ ∨ w.heap.size ≤ k_) ∧ some k_ ≠ (v18 : Value).ownBlock)) (by (with_reducible repeat (first | apply Kd.N_alloc | apply Kd.N_drewN | apply Kd.N_drew)); exact HN22.out) (fun k_ hk_ => ⟨hk_.1, hk_.2⟩))⟩, ⟨(by repeat (first | (with_reducible first | exact HB.out | apply below_alloc | apply pw_below_drewN | apply below_drew1) | exact HB.out))⟩⟩
                          · exact absurd HH.out (by rw [if_neg c52]; simp)
                        · have H := HH.out
                          rw [if_neg c50] at H
                          replace HH := Aside0.mk H
                          clear H
                          have hk67 : decide (0 < x38) = false := decide_eq_false c50
                          clear c50
                          by_cases c68 : x23 > 0
                          · have H := HH.out
                            rw [if_pos c68] at H
                            replace HH := Aside0.mk H
                            clear H
                            have hk69 : decide (0 < x23) = true := decide_eq_true c68
                            clear c68
                            by_cases c70 : 0 ≤ x38
                            · have H := HH.out
                              rw [if_pos c70] at H
                              replace HH := Aside0.mk H
                              clear H
                              have hk71 : decide (0 ≤ x38) = true := decide_eq_true c70
                              clear c70
                              have p72 : 0 ≤ (x38 : Int) := of_decide_eq_true (by first | (with_reducible assumption) | assumption)
                              have q72 : x38 < ((rd_L1 t9 x23).length : Int) := of_decide_eq_true (by first | (with_reducible assumption) | assumption)
                              obtain ⟨ad72, e72, hx72_0⟩ := Kd.at_int (Kd.F_now HF46_0.out) x38 p72 q72
                              cases e72
                              replace p72 := eq_true p72
                              replace q72 := eq_true q72
                              have H := HH.out
                              replace H := Option.bind_eq_some_iff.mp H
                              obtain ⟨t73, at_, H⟩ := H
                              have At74 := Aside0.mk at_
                              clear at_
                              replace HH := Aside0.mk (show (if ((t73 == 0) != (x38 == 0)) = true then (some false) else ((toponymlaw06_ArrangeParts.l1 k39 (wrap64 (x38 + 1)) l0 t9 x17 x20 x23))) = some r from H)
                              clear H
                              go_wp2_with (((with_reducible refine gate_callee (f := 16) rfl ?_); (try (refine gate_guard (by rfl) ?_; dsimp only)); refine goesL_ (some 51) rfl rfl Try.func16 (by kernel_rfl) rfl #[.int .i32 (rd (rd_L1 t9 x23) x38)] rfl (by (try simp only [List.map_toArray, List.map_cons, List.map_nil]); first | done | rfl | (simp only [List.length_drop, List.length_take]; rfl)) ?_; (with_reducible refine (chars_Class.calls  (rd (rd_L1 t9 x23) x38) t73 _  At74.out).mono ?_); rintro e w' ⟨rfl, ⟨nd, rfl⟩⟩; refine ⟨_, rfl, ?_⟩); refine stop_ ?_)
                              refine Stop.go ?_
                              by_cases c76 : ((t73 == 0) != (x38 == 0)) = true
                              · have H := HH.out
                                rw [if_pos c76] at H
                                replace HH := Aside0.mk H
                                clear H
                                have hk77 : ((t73 == 0) != (x38 == 0)) = true := c76
                                try have hk78 : decide ((t73 == 0) = (x38 == 0)) = false := by simpa using c76
                                try have hk79 : ((t73 == 0) == (x38 == 0)) = false := by simpa using c76
                                try have hk80 : ¬ ((t73 == 0) = (x38 == 0)) := by simpa using c76
                                clear c76
                                have H := HH.out
                                obtain rfl := Option.some.inj H
                                clear HH
                                go_wp2
                                go_ret
                                exact ⟨by first | rfl | (simp; done) | (simp [*]; done), (by repeat (first | (with_reducible first | exact HB.out | apply below_alloc | apply pw_below_drewN | apply below_drew1) | exact HB.out))⟩
                              · have H := HH.out
                                rw [if_neg c76] at H
                                replace HH := Aside0.mk H
                                clear H
                                have hk81 : ((t73 == 0) != (x38 == 0)) = false := by simpa using c76
                                try have hk82 : decide ((t73 == 0) = (x38 == 0)) = true := by simpa using c76
                                try have hk83 : ((t73 == 0) == (x38 == 0)) = true := by simpa using c76
                                clear c76
                                go_wp2
                                go_roundg k39
                                case measure => have := HK0.out; have := HK1.out; omega
                                case rel => exact ⟨wrap64 (x38 + 1), (by first | rfl | (simp; done) | (simp [*]; done)), HH, ⟨by have := HK0.out; have := HK1.out; omega⟩, ⟨(Kd.F_mono (ok := (fun k_ => (P_ k_ ∨ w.heap.size ≤ k_) ∧ some k_ ≠ (v18 : Value).ownBlock ∧ some k_ ≠ (v21 : Value).ownBlock)) (by (with_reducible repeat (first | apply Kd.F_alloc | apply Kd.F_drewN | apply Kd.F_drew)); exact HF0.out) (fun k_ hk_ => ⟨hk_.1, hk_.2.1, hk_.2.2⟩))⟩, ⟨(Kd.F_mono (ok := (fun k_ => (P_ k_ ∨ w.heap.size ≤ k_) ∧ some k_ ≠ (v18 : Value).ownBlock ∧ some k_ ≠ (v21 : Value).ownBlock)) (by (with_reducible repeat (first | apply Kd.F_alloc | apply Kd.F_drewN | apply Kd.F_drew)); exact HF15.out) (fun k_ hk_ => ⟨hk_.1, hk_.2.1, hk_.2.2⟩))⟩, ⟨(Kd.N_mono (ok := (fun k_ => (P_ k_ ∨ w.heap.size ≤ k_) ∧ some k_ ≠ (v21 : Value).ownBlock)) (by (with_reducible repeat (first | apply Kd.N_alloc | apply Kd.N_drewN | apply Kd.N_drew)); exact HN19.out) (fun k_ hk_ => ⟨hk_.1, hk_.2⟩))⟩, ⟨(Kd.N_mono (ok := (fun k_ => (P_ k_ ∨ w.heap.size ≤ k_) ∧ some k_ ≠ (v18 : Value).ownBlock)) (by (with_reducible repeat (first | apply Kd.N_alloc | apply Kd.N_drewN | apply Kd.N_drew)); exact HN22.out) (fun k_ hk_ => ⟨hk_.1, hk_.2⟩))⟩, ⟨(by repeat (first | (with_reducible first | exact HB.out | apply below_alloc | apply pw_below_drewN | apply below_drew1) | exact HB.out))⟩⟩
                            · exact absurd HH.out (by rw [if_neg c70]; simp)
                          · have H := HH.out
                            rw [if_neg c68] at H
                            replace HH := Aside0.mk H
                            clear H
                            have hk85 : decide (0 < x23) = false := decide_eq_false c68
                            clear c68
                            go_wp2
                            go_roundg k39
                            case measure => have := HK0.out; have := HK1.out; omega
                            case rel => exact ⟨wrap64 (x38 + 1), (by first | rfl | (simp; done) | (simp [*]; done)), HH, ⟨by have := HK0.out; have := HK1.out; omega⟩, ⟨(Kd.F_mono (ok := (fun k_ => (P_ k_ ∨ w.heap.size ≤ k_) ∧ some k_ ≠ (v18 : Value).ownBlock ∧ some k_ ≠ (v21 : Value).ownBlock)) HF0.out (fun k_ hk_ => ⟨hk_.1, hk_.2.1, hk_.2.2⟩))⟩, ⟨(Kd.F_mono (ok := (fun k_ => (P_ k_ ∨ w.heap.size ≤ k_) ∧ some k_ ≠ (v18 : Value).ownBlock ∧ some k_ ≠ (v21 : Value).ownBlock)) HF15.out (fun k_ hk_ => ⟨hk_.1, hk_.2.1, hk_.2.2⟩))⟩, ⟨(Kd.N_mono (ok := (fun k_ => (P_ k_ ∨ w.heap.size ≤ k_) ∧ some k_ ≠ (v21 : Value).ownBlock)) HN19.out (fun k_ hk_ => ⟨hk_.1, hk_.2⟩))⟩, ⟨(Kd.N_mono (ok := (fun k_ => (P_ k_ ∨ w.heap.size ≤ k_) ∧ some k_ ≠ (v18 : Value).ownBlock)) HN22.out (fun k_ hk_ => ⟨hk_.1, hk_.2⟩))⟩, ⟨HB.out⟩⟩
                      · have H := HH.out
                        rw [if_neg c47] at H
                        replace HH := Aside0.mk H
                        clear H
                        have hk86 : (x38 < ((rd_L1 t9 x23).length : Int)) = False := eq_false c47
                        have hk87 : decide (x38 < ((rd_L1 t9 x23).length : Int)) = false := decide_eq_false c47
                        clear c47
                        by_cases c88 : x17.length + (rd_L1 t9 x23).length < 35184372088832
                        · have H := HH.out
                          rw [if_pos c88] at H
                          replace HH := Aside0.mk H
                          clear H
                          have LMc88 := Aside0.mk c88
                          clear c88
                          obtain ⟨y89, hy89⟩ : ∃ y_ : List Int, y_ = (x17 ++ (rd_L1 t9 x23)) := ⟨_, rfl⟩
                          have H : ((arrange_Order.f k39 (rd_L1 t9 x23)).bind fun t94 => (if x20.length + t94.length < 35184372088832 then ((some (x20 ++ t94 : List Int)).bind fun y103 => ((toponymlaw06_ArrangeParts.l0 k39 y89 y103 (wrap64 (x23 + 1)) l0 t9))) else (none))) = some r := by rw [hy89]; exact HH.out
                          replace HH := Aside0.mk H
                          clear H
                          have NYy89 := Aside0.mk hy89
                          clear hy89
                          go_wp2_with (((with_reducible refine gate_dst (N := 62) rfl ?_); (try (refine gate_guard (by rfl) ?_; dsimp only)); refine Kd.N_append_rows (Kd.int .i32) w.heap.size rfl _ _ 22 21 (.int .i32 0) 4 rfl Try.underlying22 info21 rfl (by decide) (by decide) (v18) x17 (rd_L1 t9 x23) _ _ _ (fun k_ => (P_ k_ ∨ w.heap.size ≤ k_) ∧ some k_ ≠ (v21 : Value).ownBlock) (fun k_ => (fun k_ => (P_ k_ ∨ w.heap.size ≤ k_) ∧ some k_ ≠ (v21 : Value).ownBlock) k_ ∧ some k_ ≠ (v18 : Value).ownBlock) rfl rfl HN19.out (Kd.F_mono (ok := (fun k_ => (P_ k_ ∨ w.heap.size ≤ k_) ∧ some k_ ≠ (v18 : Value).ownBlock ∧ some k_ ≠ (v21 : Value).ownBlock)) HF46_0.out (fun k_ hk_ => ⟨⟨hk_.1, hk_.2.2⟩, hk_.2.1⟩)) (fun _ hk_ => hk_) (fun k_ h_ => ⟨.inr (Nat.le_trans (below_size HB.out) h_), Kd.fresh' (Kd.N_lt HN22.out) k_ h_⟩) HB.out (below_size HB.out) (by first | (have := LMc88.out; simp only [List.length_nil] at *; omega) | (have := LMc88.out; simp at *; omega)) ?_; intro v90 w91 hn1 hb1 hg1 hat1); replace hat1 := Aside0.mk hat1; refine stop_ ?_)
                          refine Stop.go ?_
                          replace hat1 := hat1.out
                          replace HF0 := Aside0.mk (Kd.F_mono (Kd.F_after (v := v18) (ok := (fun k_ => (P_ k_ ∨ w.heap.size ≤ k_) ∧ some k_ ≠ (v21 : Value).ownBlock)) (Kd.F_mono (ok := (fun k_ => (P_ k_ ∨ w.heap.size ≤ k_) ∧ some k_ ≠ (v18 : Value).ownBlock ∧ some k_ ≠ (v21 : Value).ownBlock)) HF0.out (fun k_ hk_ => ⟨⟨hk_.1, hk_.2.2⟩, hk_.2.1⟩)) hg1 hat1) (fun k_ hk_ => ⟨hk_.1.1, hk_.1.2, hk_.2⟩) : Kd.F (Kd.int .i32) _ (fun k_ => (P_ k_ ∨ w.heap.size ≤ k_) ∧ some k_ ≠ (v21 : Value).ownBlock ∧ some k_ ≠ (v90 : Value).ownBlock) _ _ _)
                          replace HF15 := Aside0.mk (Kd.F_mono (Kd.F_after (v := v18) (ok := (fun k_ => (P_ k_ ∨ w.heap.size ≤ k_) ∧ some k_ ≠ (v21 : Value).ownBlock)) (Kd.F_mono (ok := (fun k_ => (P_ k_ ∨ w.heap.size ≤ k_) ∧ some k_ ≠ (v18 : Value).ownBlock ∧ some k_ ≠ (v21 : Value).ownBlock)) HF15.out (fun k_ hk_ => ⟨⟨hk_.1, hk_.2.2⟩, hk_.2.1⟩)) hg1 hat1) (fun k_ hk_ => ⟨hk_.1.1, hk_.1.2, hk_.2⟩) : Kd.F (Kd.slice 21 (Kd.int .i32)) _ (fun k_ => (P_ k_ ∨ w.heap.size ≤ k_) ∧ some k_ ≠ (v21 : Value).ownBlock ∧ some k_ ≠ (v90 : Value).ownBlock) _ _ _)
                          replace HF46_0 := Aside0.mk (Kd.F_mono (Kd.F_after (v := v18) (ok := (fun k_ => (P_ k_ ∨ w.heap.size ≤ k_) ∧ some k_ ≠ (v21 : Value).ownBlock)) (Kd.F_mono (ok := (fun k_ => (P_ k_ ∨ w.heap.size ≤ k_) ∧ some k_ ≠ (v18 : Value).ownBlock ∧ some k_ ≠ (v21 : Value).ownBlock)) HF46_0.out (fun k_ hk_ => ⟨⟨hk_.1, hk_.2.2⟩, hk_.2.1⟩)) hg1 hat1) (fun k_ hk_ => ⟨hk_.1.1, hk_.1.2, hk_.2⟩) : Kd.F (Kd.int .i32) _ (fun k_ => (P_ k_ ∨ w.heap.size ≤ k_) ∧ some k_ ≠ (v21 : Value).ownBlock ∧ some k_ ≠ (v90 : Value).ownBlock) _ _ _)
                          replace HN22 := Aside0.mk (Kd.N_mono (Kd.N_after (u := v18) (ok := (fun k_ => (P_ k_ ∨ w.heap.size ≤ k_))) (Kd.N_mono (ok := (fun k_ => (P_ k_ ∨ w.heap.size ≤ k_) ∧ some k_ ≠ (v18 : Value).ownBlock)) HN22.out (fun k_ hk_ => ⟨hk_.1, hk_.2⟩)) hg1 hat1) (fun k_ hk_ => ⟨hk_.1, hk_.2⟩) : Kd.N (Kd.int .i32) _ _ _ (fun k_ => (P_ k_ ∨ w.heap.size ≤ k_) ∧ some k_ ≠ (v90 : Value).ownBlock) _ _)
                          replace HB := Aside0.mk hb1
                          clear HN19
                          have HN92 := Aside0.mk hn1
                          clear hn1 hb1 hg1 hat1
                          replace HN92 := Aside0.mk (by rw [NYy89.out]; exact HN92.out : Kd.N (Kd.int .i32) 21 w91 w.heap.size (fun k_ => (P_ k_ ∨ w.heap.size ≤ k_) ∧ some k_ ≠ (v21 : Value).ownBlock) v90 y89)
                          clear hx46_0 p46 q46
                          have p93 : 0 ≤ (x23 : Int) := of_decide_eq_true (by first | (with_reducible assumption) | assumption)
                          have q93 : x23 < (t9.length : Int) := of_decide_eq_true (by first | (with_reducible assumption) | assumption)
                          obtain ⟨ad93, A93_0, c93_0, e93, hx93_0, hl93_0, hi93_0⟩ := atF_L1 HF15.out x23 p93 q93
                          cases e93
                          have HF93_0 := Aside0.mk hi93_0
                          have HL93_0 := Aside0.mk hl93_0
                          clear hi93_0 hl93_0
                          replace p93 := eq_true p93
                          replace q93 := eq_true q93
                          have H := HH.out
                          replace H := Option.bind_eq_some_iff.mp H
                          obtain ⟨t94, at_, H⟩ := H
                          have At95 := Aside0.mk at_
                          clear at_
                          replace HH := Aside0.mk (show (if x20.length + t94.length < 35184372088832 then ((some (x20 ++ t94 : List Int)).bind fun y103 => ((toponymlaw06_ArrangeParts.l0 k39 y89 y103 (wrap64 (x23 + 1)) l0 t9))) else (none)) = some r from H)
                          clear H
                          go_wp2_with (((with_reducible refine gate_callee (f := 9) rfl ?_); (try (refine gate_guard (by rfl) ?_; dsimp only)); refine goesL_ (some 68) rfl rfl Try.func9 (by kernel_rfl) rfl #[.slice A93_0 (rd_L1 t9 x23).length c93_0] rfl (by (try simp only [List.map_toArray, List.map_cons, List.map_nil]); first | done | rfl | (simp only [List.length_drop, List.length_take]; rfl)) ?_; (with_reducible refine (arrange_Order.calls k39 (fun k_ => (P_ k_ ∨ w.heap.size ≤ k_) ∧ some k_ ≠ (v21 : Value).ownBlock ∧ some k_ ≠ (v90 : Value).ownBlock) _ _ (rd_L1 t9 x23) t94 _ (Kd.F_mono (ok := (fun k_ => (P_ k_ ∨ w.heap.size ≤ k_) ∧ some k_ ≠ (v21 : Value).ownBlock ∧ some k_ ≠ (v90 : Value).ownBlock)) HF93_0.out (fun k_ hk_ => ⟨hk_.1, hk_.2.1, hk_.2.2⟩)) HL93_0.out At95.out).mono ?_); rintro e w96 ⟨v97, rfl, hn97, hb⟩; refine ⟨_, rfl, ?_⟩); refine stop_ ?_)
                          refine Stop.go ?_
                          have hba := Kd.N_base hn97
                          have HN97 := Aside0.mk (Kd.N_mono (Kd.N_lower hn97 (below_size HB.out)) (fun k_ hk_ => hk_.elim (fun h_ => h_) (fun h_ => ⟨.inr (Nat.le_trans (below_size HB.out) h_), Kd.fresh' (Kd.N_lt HN22.out) k_ h_, Kd.fresh' (Kd.N_lt HN92.out) k_ h_⟩)) : Kd.N (Kd.int .i32) 21 w96 w.heap.size (fun k_ => (P_ k_ ∨ w.heap.size ≤ k_) ∧ some k_ ≠ (v21 : Value).ownBlock ∧ some k_ ≠ (v90 : Value).ownBlock) v97 t94)
                          replace HF0 := Aside0.mk (Kd.F_mono (Kd.F_elder' (ok := (fun k_ => (P_ k_ ∨ w.heap.size ≤ k_) ∧ some k_ ≠ (v21 : Value).ownBlock ∧ some k_ ≠ (v90 : Value).ownBlock)) HF0.out hba hb) (fun k_ hk_ => ⟨hk_.1.1, hk_.1.2.1, hk_.1.2.2, hk_.2⟩) : Kd.F (Kd.int .i32) _ (fun k_ => (P_ k_ ∨ w.heap.size ≤ k_) ∧ some k_ ≠ (v21 : Value).ownBlock ∧ some k_ ≠ (v90 : Value).ownBlock ∧ some k_ ≠ (v97 : Value).ownBlock) _ _ _)
                          replace HF15 := Aside0.mk (Kd.F_mono (Kd.F_elder' (ok := (fun k_ => (P_ k_ ∨ w.heap.size ≤ k_) ∧ some k_ ≠ (v21 : Value).ownBlock ∧ some k_ ≠ (v90 : Value).ownBlock)) HF15.out hba hb) (fun k_ hk_ => ⟨hk_.1.1, hk_.1.2.1, hk_.1.2.2, hk_.2⟩) : Kd.F (Kd.slice 21 (Kd.int .i32)) _ (fun k_ => (P_ k_ ∨ w.heap.size ≤ k_) ∧ some k_ ≠ (v21 : Value).ownBlock ∧ some k_ ≠ (v90 : Value).ownBlock ∧ some k_ ≠ (v97 : Value).ownBlock) _ _ _)
                          replace HF46_0 := Aside0.mk (Kd.F_mono (Kd.F_elder' (ok := (fun k_ => (P_ k_ ∨ w.heap.size ≤ k_) ∧ some k_ ≠ (v21 : Value).ownBlock ∧ some k_ ≠ (v90 : Value).ownBlock)) HF46_0.out hba hb) (fun k_ hk_ => ⟨hk_.1.1, hk_.1.2.1, hk_.1.2.2, hk_.2⟩) : Kd.F (Kd.int .i32) _ (fun k_ => (P_ k_ ∨ w.heap.size ≤ k_) ∧ some k_ ≠ (v21 : Value).ownBlock ∧ some k_ ≠ (v90 : Value).ownBlock ∧ some k_ ≠ (v97 : Value).ownBlock) _ _ _)
                          replace HF93_0 := Aside0.mk (Kd.F_mono (Kd.F_elder' (ok := (fun k_ => (P_ k_ ∨ w.heap.size ≤ k_) ∧ some k_ ≠ (v21 : Value).ownBlock ∧ some k_ ≠ (v90 : Value).ownBlock)) HF93_0.out hba hb) (fun k_ hk_ => ⟨hk_.1.1, hk_.1.2.1, hk_.1.2.2, hk_.2⟩) : Kd.F (Kd.int .i32) _ (fun k_ => (P_ k_ ∨ w.heap.size ≤ k_) ∧ some k_ ≠ (v21 : Value).ownBlock ∧ some k_ ≠ (v90 : Value).ownBlock ∧ some k_ ≠ (v97 : Value).ownBlock) _ _ _)
                          replace HN22 := Aside0.mk (Kd.N_mono (Kd.N_elder' (ok := (fun k_ => (P_ k_ ∨ w.heap.size ≤ k_) ∧ some k_ ≠ (v90 : Value).ownBlock)) HN22.out hba hb) (fun k_ hk_ => ⟨hk_.1.1, hk_.1.2, hk_.2⟩) : Kd.N (Kd.int .i32) _ _ _ (fun k_ => (P_ k_ ∨ w.heap.size ≤ k_) ∧ some k_ ≠ (v90 : Value).ownBlock ∧ some k_ ≠ (v97 : Value).ownBlock) _ _)
                          replace HN92 := Aside0.mk (Kd.N_mono (Kd.N_elder' (ok := (fun k_ => (P_ k_ ∨ w.heap.size ≤ k_) ∧ some k_ ≠ (v21 : Value).ownBlock)) HN92.out hba hb) (fun k_ hk_ => ⟨hk_.1.1, hk_.1.2, hk_.2⟩) : Kd.N (Kd.int .i32) _ _ _ (fun k_ => (P_ k_ ∨ w.heap.size ≤ k_) ∧ some k_ ≠ (v21 : Value).ownBlock ∧ some k_ ≠ (v97 : Value).ownBlock) _ _)
                          replace HB := Aside0.mk (below_step HB.out hb)
                          clear hn97 hba hb
                          clear hx93_0 p93 q93
                          obtain ⟨A98, cp99, he_⟩ := Kd.N_slice HN97.out
                          subst he_
                          have HL101 := Aside0.mk (Kd.N_reads' HN97.out).2.1
                          have HF100 := Aside0.mk (Kd.N_F HN97.out)
                          clear HN97
                          replace HF0 := Aside0.mk (Kd.F_mono (ok := (fun k_ => (P_ k_ ∨ w.heap.size ≤ k_) ∧ some k_ ≠ (v21 : Value).ownBlock ∧ some k_ ≠ (v90 : Value).ownBlock ∧ some k_ ≠ ((.slice A98 t94.length cp99) : Value).ownBlock)) HF0.out (fun k_ hk_ => ⟨hk_.1, hk_.2.1, hk_.2.2.1⟩) : Kd.F (Kd.int .i32) _ (fun k_ => (P_ k_ ∨ w.heap.size ≤ k_) ∧ some k_ ≠ (v21 : Value).ownBlock ∧ some k_ ≠ (v90 : Value).ownBlock) _ _ _)
                          replace HF15 := Aside0.mk (Kd.F_mono (ok := (fun k_ => (P_ k_ ∨ w.heap.size ≤ k_) ∧ some k_ ≠ (v21 : Value).ownBlock ∧ some k_ ≠ (v90 : Value).ownBlock ∧ some k_ ≠ ((.slice A98 t94.length cp99) : Value).ownBlock)) HF15.out (fun k_ hk_ => ⟨hk_.1, hk_.2.1, hk_.2.2.1⟩) : Kd.F (Kd.slice 21 (Kd.int .i32)) _ (fun k_ => (P_ k_ ∨ w.heap.size ≤ k_) ∧ some k_ ≠ (v21 : Value).ownBlock ∧ some k_ ≠ (v90 : Value).ownBlock) _ _ _)
                          replace HF46_0 := Aside0.mk (Kd.F_mono (ok := (fun k_ => (P_ k_ ∨ w.heap.size ≤ k_) ∧ some k_ ≠ (v21 : Value).ownBlock ∧ some k_ ≠ (v90 : Value).ownBlock ∧ some k_ ≠ ((.slice A98 t94.length cp99) : Value).ownBlock)) HF46_0.out (fun k_ hk_ => ⟨hk_.1, hk_.2.1, hk_.2.2.1⟩) : Kd.F (Kd.int .i32) _ (fun k_ => (P_ k_ ∨ w.heap.size ≤ k_) ∧ some k_ ≠ (v21 : Value).ownBlock ∧ some k_ ≠ (v90 : Value).ownBlock) _ _ _)
                          replace HF93_0 := Aside0.mk (Kd.F_mono (ok := (fun k_ => (P_ k_ ∨ w.heap.size ≤ k_) ∧ some k_ ≠ (v21 : Value).ownBlock ∧ some k_ ≠ (v90 : Value).ownBlock ∧ some k_ ≠ ((.slice A98 t94.length cp99) : Value).ownBlock)) HF93_0.out (fun k_ hk_ => ⟨hk_.1, hk_.2.1, hk_.2.2.1⟩) : Kd.F (Kd.int .i32) _ (fun k_ => (P_ k_ ∨ w.heap.size ≤ k_) ∧ some k_ ≠ (v21 : Value).ownBlock ∧ some k_ ≠ (v90 : Value).ownBlock) _ _ _)
                          replace HN22 := Aside0.mk (Kd.N_mono (ok := (fun k_ => (P_ k_ ∨ w.heap.size ≤ k_) ∧ some k_ ≠ (v90 : Value).ownBlock ∧ some k_ ≠ ((.slice A98 t94.length cp99) : Value).ownBlock)) HN22.out (fun k_ hk_ => ⟨hk_.1, hk_.2.1⟩) : Kd.N (Kd.int .i32) _ _ _ (fun k_ => (P_ k_ ∨ w.heap.size ≤ k_) ∧ some k_ ≠ (v90 : Value).ownBlock) _ _)
                          replace HN92 := Aside0.mk (Kd.N_mono (ok := (fun k_ => (P_ k_ ∨ w.heap.size ≤ k_) ∧ some k_ ≠ (v21 : Value).ownBlock ∧ some k_ ≠ ((.slice A98 t94.length cp99) : Value).ownBlock)) HN92.out (fun k_ hk_ => ⟨hk_.1, hk_.2.1⟩) : Kd.N (Kd.int .i32) _ _ _ (fun k_ => (P_ k_ ∨ w.heap.size ≤ k_) ∧ some k_ ≠ (v21 : Value).ownBlock) _ _)
                          by_cases c102 : x20.length + t94.length < 35184372088832
                          · have H := HH.out
                            rw [if_pos c102] at H
                            replace HH := Aside0.mk H
                            clear H
                            have LMc102 := Aside0.mk c102
                            clear c102
                            obtain ⟨y103, hy103⟩ : ∃ y_ : List Int, y_ = (x20 ++ t94) := ⟨_, rfl⟩
                            have H : ((toponymlaw06_ArrangeParts.l0 k39 y89 y103 (wrap64 (x23 + 1)) l0 t9)) = some r := by rw [hy103]; exact HH.out
                            replace HH := Aside0.mk H
                            clear H
                            have NYy103 := Aside0.mk hy103
                            clear hy103
                            go_wp2_with (((with_reducible refine gate_dst (N := 69) rfl ?_); (try (refine gate_guard (by rfl) ?_; dsimp only)); refine Kd.N_append_rows (Kd.int .i32) w.heap.size rfl _ _ 22 21 (.int .i32 0) 4 rfl Try.underlying22 info21 rfl (by decide) (by decide) (v21) x20 t94 _ _ _ (fun k_ => (P_ k_ ∨ w.heap.size ≤ k_) ∧ some k_ ≠ (v90 : Value).ownBlock) (fun k_ => (fun k_ => (P_ k_ ∨ w.heap.size ≤ k_) ∧ some k_ ≠ (v90 : Value).ownBlock) k_ ∧ some k_ ≠ (v21 : Value).ownBlock) rfl rfl HN22.out (Kd.F_mono (ok := (fun k_ => (P_ k_ ∨ w.heap.size ≤ k_) ∧ some k_ ≠ (v21 : Value).ownBlock ∧ some k_ ≠ (v90 : Value).ownBlock)) HF100.out (fun k_ hk_ => ⟨⟨hk_.1, hk_.2.2⟩, hk_.2.1⟩)) (fun _ hk_ => hk_) (fun k_ h_ => ⟨.inr (Nat.le_trans (below_size HB.out) h_), Kd.fresh' (Kd.N_lt HN92.out) k_ h_⟩) HB.out (below_size HB.out) (by first | (have := LMc102.out; simp only [List.length_nil] at *; omega) | (have := LMc102.out; simp at *; omega)) ?_; intro v104 w105 hn1 hb1 hg1 hat1); replace hat1 := Aside0.mk hat1; refine stop_ ?_)
                            refine Stop.go ?_
                            replace hat1 := hat1.out
                            replace HF0 := Aside0.mk (Kd.F_mono (Kd.F_after (v := v21) (ok := (fun k_ => (P_ k_ ∨ w.heap.size ≤ k_) ∧ some k_ ≠ (v90 : Value).ownBlock)) (Kd.F_mono (ok := (fun k_ => (P_ k_ ∨ w.heap.size ≤ k_) ∧ some k_ ≠ (v21 : Value).ownBlock ∧ some k_ ≠ (v90 : Value).ownBlock)) HF0.out (fun k_ hk_ => ⟨⟨hk_.1, hk_.2.2⟩, hk_.2.1⟩)) hg1 hat1) (fun k_ hk_ => ⟨hk_.1.1, hk_.1.2, hk_.2⟩) : Kd.F (Kd.int .i32) _ (fun k_ => (P_ k_ ∨ w.heap.size ≤ k_) ∧ some k_ ≠ (v90 : Value).ownBlock ∧ some k_ ≠ (v104 : Value).ownBlock) _ _ _)
                            replace HF15 := Aside0.mk (Kd.F_mono (Kd.F_after (v := v21) (ok := (fun k_ => (P_ k_ ∨ w.heap.size ≤ k_) ∧ some k_ ≠ (v90 : Value).ownBlock)) (Kd.F_mono (ok := (fun k_ => (P_ k_ ∨ w.heap.size ≤ k_) ∧ some k_ ≠ (v21 : Value).ownBlock ∧ some k_ ≠ (v90 : Value).ownBlock)) HF15.out (fun k_ hk_ => ⟨⟨hk_.1, hk_.2.2⟩, hk_.2.1⟩)) hg1 hat1) (fun k_ hk_ => ⟨hk_.1.1, hk_.1.2, hk_.2⟩) : Kd.F (Kd.slice 21 (Kd.int .i32)) _ (fun k_ => (P_ k_ ∨ w.heap.size ≤ k_) ∧ some k_ ≠ (v90 : Value).ownBlock ∧ some k_ ≠ (v104 : Value).ownBlock) _ _ _)
                            replace HF46_0 := Aside0.mk (Kd.F_mono (Kd.F_after (v := v21) (ok := (fun k_ => (P_ k_ ∨ w.heap.size ≤ k_) ∧ some k_ ≠ (v90 : Value).ownBlock)) (Kd.F_mono (ok := (fun k_ => (P_ k_ ∨ w.heap.size ≤ k_) ∧ some k_ ≠ (v21 : Value).ownBlock ∧ some k_ ≠ (v90 : Value).ownBlock)) HF46_0.out (fun k_ hk_ => ⟨⟨hk_.1, hk_.2.2⟩, hk_.2.1⟩)) hg1 hat1) (fun k_ hk_ => ⟨hk_.1.1, hk_.1.2, hk_.2⟩) : Kd.F (Kd.int .i32) _ (fun k_ => (P_ k_ ∨ w.heap.size ≤ k_) ∧ some k_ ≠ (v90 : Value).ownBlock ∧ some k_ ≠ (v104 : Value).ownBlock) _ _ _)
                            replace HF93_0 := Aside0.mk (Kd.F_mono (Kd.F_after (v := v21) (ok := (fun k_ => (P_ k_ ∨ w.heap.size ≤ k_) ∧ some k_ ≠ (v90 : Value).ownBlock)) (Kd.F_mono (ok := (fun k_ => (P_ k_ ∨ w.heap.size ≤ k_) ∧ some k_ ≠ (v21 : Value).ownBlock ∧ some k_ ≠ (v90 : Value).ownBlock)) HF93_0.out (fun k_ hk_ => ⟨⟨hk_.1, hk_.2.2⟩, hk_.2.1⟩)) hg1 hat1) (fun k_ hk_ => ⟨hk_.1.1, hk_.1.2, hk_.2⟩) : Kd.F (Kd.int .i32) _ (fun k_ => (P_ k_ ∨ w.heap.size ≤ k_) ∧ some k_ ≠ (v90 : Value).ownBlock ∧ some k_ ≠ (v104 : Value).ownBlock) _ _ _)
                            replace HF100 := Aside0.mk (Kd.F_mono (Kd.F_after (v := v21) (ok := (fun k_ => (P_ k_ ∨ w.heap.size ≤ k_) ∧ some k_ ≠ (v90 : Value).ownBlock)) (Kd.F_mono (ok := (fun k_ => (P_ k_ ∨ w.heap.size ≤ k_) ∧ some k_ ≠ (v21 : Value).ownBlock ∧ some k_ ≠ (v90 : Value).ownBlock)) HF100.out (fun k_ hk_ => ⟨⟨hk_.1, hk_.2.2⟩, hk_.2.1⟩)) hg1 hat1) (fun k_ hk_ => ⟨hk_.1.1, hk_.1.2, hk_.2⟩) : Kd.F (Kd.int .i32) _ (fun k_ => (P_ k_ ∨ w.heap.size ≤ k_) ∧ some k_ ≠ (v90 : Value).ownBlock ∧ some k_ ≠ (v104 : Value).ownBlock) _ _ _)
                            replace HN92 := Aside0.mk (Kd.N_mono (Kd.N_after (u := v21) (ok := (fun k_ => (P_ k_ ∨ w.heap.size ≤ k_))) (Kd.N_mono (ok := (fun k_ => (P_ k_ ∨ w.heap.size ≤ k_) ∧ some k_ ≠ (v21 : Value).ownBlock)) HN92.out (fun k_ hk_ => ⟨hk_.1, hk_.2⟩)) hg1 hat1) (fun k_ hk_ => ⟨hk_.1, hk_.2⟩) : Kd.N (Kd.int .i32) _ _ _ (fun k_ => (P_ k_ ∨ w.heap.size ≤ k_) ∧ some k_ ≠ (v104 : Value).ownBlock) _ _)
                            replace HB := Aside0.mk hb1
                            clear HN22
                            have HN106 := Aside0.mk hn1
                            clear hn1 hb1 hg1 hat1
                            replace HN106 := Aside0.mk (by rw [NYy103.out]; exact HN106.out : Kd.N (Kd.int .i32) 21 w105 w.heap.size (fun k_ => (P_ k_ ∨ w.heap.size ≤ k_) ∧ some k_ ≠ (v90 : Value).ownBlock) v104 y103)
                            go_wp2
                            go_roundg k39
                            case measure => have := HK0.out; have := HK1.out; omega
                            case rel => exact ⟨y89, y103, wrap64 (x23 + 1), (by first | rfl | (simp; done) | (simp [*]; done)), HH, ⟨by have := HK0.out; have := HK1.out; omega⟩, ⟨(Kd.F_mono (ok := (fun k_ => (P_ k_ ∨ w.heap.size ≤ k_) ∧ some k_ ≠ (v90 : Value).ownBlock ∧ some k_ ≠ (v104 : Value).ownBlock)) HF0.out (fun k_ hk_ => ⟨hk_.1, hk_.2.1, hk_.2.2⟩))⟩, ⟨(Kd.F_mono (ok := (fun k_ => (P_ k_ ∨ w.heap.size ≤ k_) ∧ some k_ ≠ (v90 : Value).ownBlock ∧ some k_ ≠ (v104 : Value).ownBlock)) HF15.out (fun k_ hk_ => ⟨hk_.1, hk_.2.1, hk_.2.2⟩))⟩, ⟨(Kd.N_mono (ok := (fun k_ => (P_ k_ ∨ w.heap.size ≤ k_) ∧ some k_ ≠ (v104 : Value).ownBlock)) HN92.out (fun k_ hk_ => ⟨hk_.1, hk_.2⟩))⟩, ⟨(Kd.N_mono (ok := (fun k_ => (P_ k_ ∨ w.heap.size ≤ k_) ∧ some k_ ≠ (v90 : Value).ownBlock)) HN106.out (fun k_ hk_ => ⟨hk_.1, hk_.2⟩))⟩, ⟨HB.out⟩⟩
                          · exact absurd HH.out (by rw [if_neg c102]; simp)
                        · exact absurd HH.out (by rw [if_neg c88]; simp)
                    · exact absurd HH.out (by rw [if_neg c43]; simp)
                  · exact absurd HH.out (by rw [if_neg c41]; simp)
          · exact absurd HH.out (by rw [if_neg c29]; simp)
        · have H := HH.out
          rw [if_neg c26] at H
          replace HH := Aside0.mk H
          clear H
          have hk111 : (x23 < (t9.length : Int)) = False := eq_false c26
          have hk112 : decide (x23 < (t9.length : Int)) = false := decide_eq_false c26
          clear c26
          have H := HH.out
          replace H := Option.bind_eq_some_iff.mp H
          obtain ⟨t113, at_, H⟩ := H
          have At114 := Aside0.mk at_
          clear at_
          replace HH := Aside0.mk (show (if (t113.length : Int) = (l0.length : Int) then ((toponymlaw06_ArrangeParts.l2 k24 0 l0 t113 x17 x20)) else (some false)) = some r from H)
          clear H
          go_wp2_with (((with_reducible refine gate_callee (f := 9) rfl ?_); (try (refine gate_guard (by rfl) ?_; dsimp only)); refine goesL_ (some 71) rfl rfl Try.func9 (by kernel_rfl) rfl #[.slice A0 l0.length c0] rfl (by (try simp only [List.map_toArray, List.map_cons, List.map_nil]); first | done | rfl | (simp only [List.length_drop, List.length_take]; rfl)) ?_; (with_reducible refine (arrange_Order.calls k24 (fun k_ => (P_ k_ ∨ w.heap.size ≤ k_) ∧ some k_ ≠ (v18 : Value).ownBlock ∧ some k_ ≠ (v21 : Value).ownBlock) _ _ l0 t113 _ (Kd.F_mono (ok := (fun k_ => (P_ k_ ∨ w.heap.size ≤ k_) ∧ some k_ ≠ (v18 : Value).ownBlock ∧ some k_ ≠ (v21 : Value).ownBlock)) HF0.out (fun k_ hk_ => ⟨hk_.1, hk_.2.1, hk_.2.2⟩)) HL0.out At114.out).mono ?_); rintro e w115 ⟨v116, rfl, hn116, hb⟩; refine ⟨_, rfl, ?_⟩); refine stop_ ?_)
          refine Stop.go ?_
          have hba := Kd.N_base hn116
          have HN116 := Aside0.mk (Kd.N_mono (Kd.N_lower hn116 (below_size HB.out)) (fun k_ hk_ => hk_.elim (fun h_ => h_) (fun h_ => ⟨.inr (Nat.le_trans (below_size HB.out) h_), Kd.fresh' (Kd.N_lt HN19.out) k_ h_, Kd.fresh' (Kd.N_lt HN22.out) k_ h_⟩)) : Kd.N (Kd.int .i32) 21 w115 w.heap.size (fun k_ => (P_ k_ ∨ w.heap.size ≤ k_) ∧ some k_ ≠ (v18 : Value).ownBlock ∧ some k_ ≠ (v21 : Value).ownBlock) v116 t113)
          replace HF0 := Aside0.mk (Kd.F_mono (Kd.F_elder' (ok := (fun k_ => (P_ k_ ∨ w.heap.size ≤ k_) ∧ some k_ ≠ (v18 : Value).ownBlock ∧ some k_ ≠ (v21 : Value).ownBlock)) HF0.out hba hb) (fun k_ hk_ => ⟨hk_.1.1, hk_.1.2.1, hk_.1.2.2, hk_.2⟩) : Kd.F (Kd.int .i32) _ (fun k_ => (P_ k_ ∨ w.heap.size ≤ k_) ∧ some k_ ≠ (v18 : Value).ownBlock ∧ some k_ ≠ (v21 : Value).ownBlock ∧ some k_ ≠ (v116 : Value).ownBlock) _ _ _)
          replace HF15 := Aside0.mk (Kd.F_mono (Kd.F_elder' (ok := (fun k_ => (P_ k_ ∨ w.heap.size ≤ k_) ∧ some k_ ≠ (v18 : Value).ownBlock ∧ some k_ ≠ (v21 : Value).ownBlock)) HF15.out hba hb) (fun k_ hk_ => ⟨hk_.1.1, hk_.1.2.1, hk_.1.2.2, hk_.2⟩) : Kd.F (Kd.slice 21 (Kd.int .i32)) _ (fun k_ => (P_ k_ ∨ w.heap.size ≤ k_) ∧ some k_ ≠ (v18 : Value).ownBlock ∧ some k_ ≠ (v21 : Value).ownBlock ∧ some k_ ≠ (v116 : Value).ownBlock) _ _ _)
          replace HN19 := Aside0.mk (Kd.N_mono (Kd.N_elder' (ok := (fun k_ => (P_ k_ ∨ w.heap.size ≤ k_) ∧ some k_ ≠ (v21 : Value).ownBlock)) HN19.out hba hb) (fun k_ hk_ => ⟨hk_.1.1, hk_.1.2, hk_.2⟩) : Kd.N (Kd.int .i32) _ _ _ (fun k_ => (P_ k_ ∨ w.heap.size ≤ k_) ∧ some k_ ≠ (v21 : Value).ownBlock ∧ some k_ ≠ (v116 : Value).ownBlock) _ _)
          replace HN22 := Aside0.mk (Kd.N_mono (Kd.N_elder' (ok := (fun k_ => (P_ k_ ∨ w.heap.size ≤ k_) ∧ some k_ ≠ (v18 : Value).ownBlock)) HN22.out hba hb) (fun k_ hk_ => ⟨hk_.1.1, hk_.1.2, hk_.2⟩) : Kd.N (Kd.int .i32) _ _ _ (fun k_ => (P_ k_ ∨ w.heap.size ≤ k_) ∧ some k_ ≠ (v18 : Value).ownBlock ∧ some k_ ≠ (v116 : Value).ownBlock) _ _)
          replace HB := Aside0.mk (below_step HB.out hb)
          clear hn116 hba hb
          obtain ⟨A117, cp118, he_⟩ := Kd.N_slice HN116.out
          subst he_
          by_cases c119 : (t113.length : Int) = (l0.length : Int)
          · have H := HH.out
            rw [if_pos c119] at H
            replace HH := Aside0.mk H
            clear H
            have hk120 : ((t113.length : Int) == (l0.length : Int)) = true := beq_iff_eq.mpr c119
            have hk121 : ((t113.length : Int) != (l0.length : Int)) = false := bne_eq_false_iff_eq.mpr c119
            have hk122 : (t113.length == l0.length) = true := by first | simpa using c119 | (simp at c119 ⊢; omega)
            clear c119
            go_wp2
            go_loopg [9] k24 (fun kq u9 w' => ∃ (x123 : Int), u9 = .int .i64 x123 ∧ Aside0 ((toponymlaw06_ArrangeParts.l2 kq x123 l0 t113 x17 x20) = some r) ∧ Aside0 (kq ≤ k24) ∧ Aside0 (Kd.F (Kd.int .i32) w' (fun k_ => (P_ k_ ∨ w.heap.size ≤ k_) ∧ some k_ ≠ (v18 : Value).ownBlock ∧ some k_ ≠ (v21 : Value).ownBlock ∧ some k_ ≠ ((.slice A117 t113.length cp118) : Value).ownBlock) A0 l0.length l0) ∧ Aside0 (Kd.N (Kd.int .i32) 21 w' w.heap.size (fun k_ => (P_ k_ ∨ w.heap.size ≤ k_) ∧ some k_ ≠ (v21 : Value).ownBlock ∧ some k_ ≠ ((.slice A117 t113.length cp118) : Value).ownBlock) v18 x17) ∧ Aside0 (Kd.N (Kd.int .i32) 21 w' w.heap.size (fun k_ => (P_ k_ ∨ w.heap.size ≤ k_) ∧ some k_ ≠ (v18 : Value).ownBlock ∧ some k_ ≠ ((.slice A117 t113.length cp118) : Value).ownBlock) v21 x20) ∧ Aside0 (Kd.N (Kd.int .i32) 21 w' w.heap.size (fun k_ => (P_ k_ ∨ w.heap.size ≤ k_) ∧ some k_ ≠ (v18 : Value).ownBlock ∧ some k_ ≠ (v21 : Value).ownBlock) (.slice A117 t113.length cp118) t113) ∧ Aside0 (Below w.heap.size w w'))
            case atStart => exact ⟨0, (by first | rfl | (simp; done) | (simp [*]; done)), HH, ⟨Nat.le_refl _⟩, ⟨(Kd.F_mono (ok := (fun k_ => (P_ k_ ∨ w.heap.size ≤ k_) ∧ some k_ ≠ (v18 : Value).ownBlock ∧ some k_ ≠ (v21 : Value).ownBlock ∧ some k_ ≠ ((.slice A117 t113.length cp118) : Value).ownBlock)) HF0.out (fun k_ hk_ => ⟨hk_.1, hk_.2.1, hk_.2.2.1, hk_.2.2.2⟩))⟩, ⟨(Kd.N_mono (ok := (fun k_ => (P_ k_ ∨ w.heap.size ≤ k_) ∧ some k_ ≠ (v21 : Value).ownBlock ∧ some k_ ≠ ((.slice A117 t113.length cp118) : Value).ownBlock)) HN19.out (fun k_ hk_ => ⟨hk_.1, hk_.2.1, hk_.2.2⟩))⟩, ⟨(Kd.N_mono (ok := (fun k_ => (P_ k_ ∨ w.heap.size ≤ k_) ∧ some k_ ≠ (v18 : Value).ownBlock ∧ some k_ ≠ ((.slice A117 t113.length cp118) : Value).ownBlock)) HN22.out (fun k_ hk_ => ⟨hk_.1, hk_.2.1, hk_.2.2⟩))⟩, ⟨(Kd.N_mono (ok := (fun k_ => (P_ k_ ∨ w.heap.size ≤ k_) ∧ some k_ ≠ (v18 : Value).ownBlock ∧ some k_ ≠ (v21 : Value).ownBlock)) HN116.out (fun k_ hk_ => ⟨hk_.1, hk_.2.1, hk_.2.2⟩))⟩, ⟨HB.out⟩⟩
            case round =>
              clear hk111
              clear hk112
              clear hk120
              clear hk121
              clear hk122
              clear HH
              clear HF0 HF15 HN19 HN22 HN116 HB
              obtain ⟨x123, rfl, HA, HK2, HF0, HN19, HN22, HN116, HB⟩ := hrel
              obtain ⟨w125, rfl⟩ : ∃ wo_ : World, wo_ = wr := ⟨_, rfl⟩
              cases gk with
              | zero => exact absurd HA.out (by simp [toponymlaw06_ArrangeParts.l2])
              | succ k124 =>
                have H := HA.out
                clear HA
                simp only [toponymlaw06_ArrangeParts.l2] at H
                have HH := Aside0.mk H
                clear H
                by_cases c126 : x123 < (l0.length : Int)
                · have H := HH.out
                  rw [if_pos c126] at H
                  replace HH := Aside0.mk H
                  clear H
                  have hk127 : (x123 < (l0.length : Int)) = True := eq_true c126
                  have hk128 : decide (x123 < (l0.length : Int)) = true := decide_eq_true c126
                  clear c126
                  by_cases c129 : 0 ≤ x123
                  · have H := HH.out
                    rw [if_pos c129] at H
                    replace HH := Aside0.mk H
                    clear H
                    have hk130 : decide (0 ≤ x123) = true := decide_eq_true c129
                    clear c129
                    have p131 : 0 ≤ (x123 : Int) := of_decide_eq_true (by first | (with_reducible assumption) | assumption)
                    have q131 : x123 < (l0.length : Int) := of_decide_eq_true (by first | (with_reducible assumption) | assumption)
                    obtain ⟨ad131, e131, hx131_0⟩ := Kd.at_int (Kd.F_now HF0.out) x123 p131 q131
                    cases e131
                    replace p131 := eq_true p131
                    replace q131 := eq_true q131
                    have H := HH.out
                    replace H := Option.bind_eq_some_iff.mp H
                    obtain ⟨t132, at_, H⟩ := H
                    have At133 := Aside0.mk at_
                    clear at_
                    replace HH := Aside0.mk (show (if t132 = 0 then (if x123 < (t113.length : Int) then (if (rd t113 x123) = (rd l0 x123) then ((toponymlaw06_ArrangeParts.l2 k124 (wrap64 (x123 + 1)) l0 t113 x17 x20)) else (some false)) else (none)) else ((toponymlaw06_ArrangeParts.l2 k124 (wrap64 (x123 + 1)) l0 t113 x17 x20))) = some r from H)
                    clear H
                    by_cases c134 : t132 = 0
                    · have H := HH.out
                      rw [if_pos c134] at H
                      replace HH := Aside0.mk H
                      clear H
                      have hk135 : (t132 == 0) = true := beq_iff_eq.mpr c134
                      have hk136 : (t132 != 0) = false := bne_eq_false_iff_eq.mpr c134
                      clear c134
                      by_cases c137 : x123 < (t113.length : Int)
                      · have H := HH.out
                        rw [if_pos c137] at H
                        replace HH := Aside0.mk H
                        clear H
                        have hk138 : (x123 < (t113.length : Int)) = True := eq_true c137
                        have hk139 : decide (x123 < (t113.length : Int)) = true := decide_eq_true c137
                        clear c137
                        have p140 : 0 ≤ (x123 : Int) := of_decide_eq_true (by first | (with_reducible assumption) | assumption)
                        have q140 : x123 < (t113.length : Int) := of_decide_eq_true (by first | (with_reducible assumption) | assumption)
                        obtain ⟨ad140, e140, hx140_0⟩ := Kd.at_int (Kd.F_now (Kd.N_F HN116.out)) x123 p140 q140
                        cases e140
                        replace p140 := eq_true p140
                        replace q140 := eq_true q140
                        by_cases c141 : (rd t113 x123) = (rd l0 x123)
                        · have H := HH.out
                          rw [if_pos c141] at H
                          replace HH := Aside0.mk H
                          clear H
                          have hk142 : ((rd t113 x123) == (rd l0 x123)) = true := beq_iff_eq.mpr c141
                          have hk143 : ((rd t113 x123) != (rd l0 x123)) = false := bne_eq_false_iff_eq.mpr c141
                          clear c141
                          go_wp2
                          go_quiet ((first | (go_at_call 16; first | exact Calls.quiet_of (MW.drawn (chars_Class.calls  (rd l0 x123) t132 _  At133.out)) | exact MW.quiet_far (MW.drawn (chars_Class.calls  (rd l0 x123) t132 _  At133.out)))))
                          go_wp2
                          go_roundg k124
                          case measure => have := HK0.out; have := HK2.out; omega
                          case rel => exact ⟨wrap64 (x123 + 1), (by first | rfl | (simp; done) | (simp [*]; done)), HH, ⟨by have := HK0.out; have := HK2.out; omega⟩, ⟨(Kd.F_mono (ok := (fun k_ => (P_ k_ ∨ w.heap.size ≤ k_) ∧ some k_ ≠ (v18 : Value).ownBlock ∧ some k_ ≠ (v21 : Value).ownBlock ∧ some k_ ≠ ((.slice (some ad140) t113.length cp118) : Value).ownBlock)) (by (with_reducible repeat (first | apply Kd.F_alloc | apply Kd.F_drewN | apply Kd.F_drew)); exact HF0.out) (fun k_ hk_ => ⟨hk_.1, hk_.2.1, hk_.2.2.1, hk_.2.2.2⟩))⟩, ⟨(Kd.N_mono (ok := (fun k_ => (P_ k_ ∨ w.heap.size ≤ k_) ∧ some k_ ≠ (v21 : Value).ownBlock ∧ some k_ ≠ ((.slice (some ad140) t113.length cp118) : Value).ownBlock)) (by (with_reducible repeat (first | apply Kd.N_alloc | apply Kd.N_drewN | apply Kd.N_drew)); exact HN19.out) (fun k_ hk_ => ⟨hk_.1, hk_.2.1, hk_.2.2⟩))⟩, ⟨(Kd.N_mono (ok := (fun k_ => (P_ k_ ∨ w.heap.size ≤ k_) ∧ some k_ ≠ (v18 : Value).ownBlock ∧ some k_ ≠ ((.slice (some ad140) t113.length cp118) : Value).ownBlock)) (by (with_reducible repeat (first | apply Kd.N_alloc | apply Kd.N_drewN | apply Kd.N_drew)); exact HN22.out) (fun k_ hk_ => ⟨hk_.1, hk_.2.1, hk_.2.2⟩))⟩, ⟨(Kd.N_mono (ok := (fun k_ => (P_ k_ ∨ w.heap.size ≤ k_) ∧ some k_ ≠ (v18 : Value).ownBlock ∧ some k_ ≠ (v21 : Value).ownBlock)) (by (with_reducible repeat (first | apply Kd.N_alloc | apply Kd.N_drewN | apply Kd.N_drew)); exact HN116.out) (fun k_ hk_ => ⟨hk_.1, hk_.2.1, hk_.2.2⟩))⟩, ⟨(by repeat (first | (with_reducible first | exact HB.out | apply below_alloc | apply pw_below_drewN | apply below_drew1) | exact HB.out))⟩⟩
                        · have H := HH.out
                          rw [if_neg c141] at H
                          replace HH := Aside0.mk H
                          clear H
                          have hk144 : ((rd t113 x123) == (rd l0 x123)) = false := beq_eq_false_iff_ne.mpr c141
                          have hk145 : ((rd t113 x123) != (rd l0 x123)) = true := bne_iff_ne.mpr c141
                          clear c141
                          have H := HH.out
                          obtain rfl := Option.some.inj H
                          clear HH
                          go_wp2
                          go_quiet ((first | (go_at_call 16; first | exact Calls.quiet_of (MW.drawn (chars_Class.calls  (rd l0 x123) t132 _  At133.out)) | exact MW.quiet_far (MW.drawn (chars_Class.calls  (rd l0 x123) t132 _  At133.out)))))
                          go_wp2
                          go_ret
                          exact ⟨by first | rfl | (simp; done) | (simp [*]; done), (by repeat (first | (with_reducible first | exact HB.out | apply below_alloc | apply pw_below_drewN | apply below_drew1) | exact HB.out))⟩
                      · exact absurd HH.out (by rw [if_neg c137]; simp)
                    · have H := HH.out
                      rw [if_neg c134] at H
                      replace HH := Aside0.mk H
                      clear H
                      have hk148 : (t132 == 0) = false := beq_eq_false_iff_ne.mpr c134
                      have hk149 : (t132 != 0) = true := bne_iff_ne.mpr c134
                      clear c134
                      go_wp2
                      go_quiet ((first | (go_at_call 16; first | exact Calls.quiet_of (MW.drawn (chars_Class.calls  (rd l0 x123) t132 _  At133.out)) | exact MW.quiet_far (MW.drawn (chars_Class.calls  (rd l0 x123) t132 _  At133.out)))))
                      go_wp2
                      go_roundg k124
                      case measure => have := HK0.out; have := HK2.out; omega
                      case rel => exact ⟨wrap64 (x123 + 1), (by first | rfl | (simp; done) | (simp [*]; done)), HH, ⟨by have := HK0.out; have := HK2.out; omega⟩, ⟨(Kd.F_mono (ok := (fun k_ => (P_ k_ ∨ w.heap.size ≤ k_) ∧ some k_ ≠ (v18 : Value).ownBlock ∧ some k_ ≠ (v21 : Value).ownBlock ∧ some k_ ≠ ((.slice A117 t113.length cp118) : Value).ownBlock)) (by (with_reducible repeat (first | apply Kd.F_alloc | apply Kd.F_drewN | apply Kd.F_drew)); exact HF0.out) (fun k_ hk_ => ⟨hk_.1, hk_.2.1, hk_.2.2.1, hk_.2.2.2⟩))⟩, ⟨(Kd.N_mono (ok := (fun k_ => (P_ k_ ∨ w.heap.size ≤ k_) ∧ some k_ ≠ (v21 : Value).ownBlock ∧ some k_ ≠ ((.slice A117 t113.length cp118) : Value).ownBlock)) (by (with_reducible repeat (first | apply Kd.N_alloc | apply Kd.N_drewN | apply Kd.N_drew)); exact HN19.out) (fun k_ hk_ => ⟨hk_.1, hk_.2.1, hk_.2.2⟩))⟩, ⟨(Kd.N_mono (ok := (fun k_ => (P_ k_ ∨ w.heap.size ≤ k_) ∧ some k_ ≠ (v18 : Value).ownBlock ∧ some k_ ≠ ((.slice A117 t113.length cp118) : Value).ownBlock)) (by (with_reducible repeat (first | apply Kd.N_alloc | apply Kd.N_drewN | apply Kd.N_drew)); exact HN22.out) (fun k_ hk_ => ⟨hk_.1, hk_.2.1, hk_.2.2⟩))⟩, ⟨(Kd.N_mono (ok := (fun k_ => (P_ k_ ∨ w.heap.size ≤ k_) ∧ some k_ ≠ (v18 : Value).ownBlock ∧ some k_ ≠ (v21 : Value).ownBlock)) (by (with_reducible repeat (first | apply Kd.N_alloc | apply Kd.N_drewN | apply Kd.N_drew)); exact HN116.out) (fun k_ hk_ => ⟨hk_.1, hk_.2.1, hk_.2.2⟩))⟩, ⟨(by repeat (first | (with_reducible first | exact HB.out | apply below_alloc | apply pw_below_drewN | apply below_drew1) | exact HB.out))⟩⟩
                  · exact absurd HH.out (by rw [if_neg c129]; simp)
                · have H := HH.out
                  rw [if_neg c126] at H
                  replace HH := Aside0.mk H
                  clear H
                  have hk151 : (x123 < (l0.length : Int)) = False := eq_false c126
                  have hk152 : decide (x123 < (l0.length : Int)) = false := decide_eq_false c126
                  clear c126
                  obtain ⟨A153, cp154, he_⟩ := Kd.N_slice HN19.out
                  subst he_
                  have HL156 := Aside0.mk (Kd.N_reads' HN19.out).2.1
                  have HF155 := Aside0.mk (Kd.N_F HN19.out)
                  clear HN19
                  replace HF0 := Aside0.mk (Kd.F_mono (ok := (fun k_ => (P_ k_ ∨ w.heap.size ≤ k_) ∧ some k_ ≠ ((.slice A153 x17.length cp154) : Value).ownBlock ∧ some k_ ≠ (v21 : Value).ownBlock ∧ some k_ ≠ ((.slice A117 t113.length cp118) : Value).ownBlock)) HF0.out (fun k_ hk_ => ⟨hk_.1, hk_.2.2.1, hk_.2.2.2⟩) : Kd.F (Kd.int .i32) _ (fun k_ => (P_ k_ ∨ w.heap.size ≤ k_) ∧ some k_ ≠ (v21 : Value).ownBlock ∧ some k_ ≠ ((.slice A117 t113.length cp118) : Value).ownBlock) _ _ _)
                  replace HN22 := Aside0.mk (Kd.N_mono (ok := (fun k_ => (P_ k_ ∨ w.heap.size ≤ k_) ∧ some k_ ≠ ((.slice A153 x17.length cp154) : Value).ownBlock ∧ some k_ ≠ ((.slice A117 t113.length cp118) : Value).ownBlock)) HN22.out (fun k_ hk_ => ⟨hk_.1, hk_.2.2⟩) : Kd.N (Kd.int .i32) _ _ _ (fun k_ => (P_ k_ ∨ w.heap.size ≤ k_) ∧ some k_ ≠ ((.slice A117 t113.length cp118) : Value).ownBlock) _ _)
                  replace HN116 := Aside0.mk (Kd.N_mono (ok := (fun k_ => (P_ k_ ∨ w.heap.size ≤ k_) ∧ some k_ ≠ ((.slice A153 x17.length cp154) : Value).ownBlock ∧ some k_ ≠ (v21 : Value).ownBlock)) HN116.out (fun k_ hk_ => ⟨hk_.1, hk_.2.2⟩) : Kd.N (Kd.int .i32) _ _ _ (fun k_ => (P_ k_ ∨ w.heap.size ≤ k_) ∧ some k_ ≠ (v21 : Value).ownBlock) _ _)
                  have H := HH.out
                  replace H := Option.bind_eq_some_iff.mp H
                  obtain ⟨t157, at_, H⟩ := H
                  have At158 := Aside0.mk at_
                  clear at_
                  replace HH := Aside0.mk (show (if t157 = true then ((toponymref01_Same.f k124 x20 t113).bind fun t169 => (if t169 = true then ((toponymlaw06_awake.f k124 ).bind fun t173 => (some t173)) else (some false))) else (some false)) = some r from H)
                  clear H
                  go_wp2_with (((with_reducible refine gate_callee (f := 8) rfl ?_); (try (refine gate_guard (by rfl) ?_; dsimp only)); refine goesL_ (some 102) rfl rfl Try.func8 (by kernel_rfl) rfl #[.slice A153 x17.length cp154, .slice A0 l0.length c0] rfl (by (try simp only [List.map_toArray, List.map_cons, List.map_nil]); first | done | rfl | (simp only [List.length_drop, List.length_take]; rfl)) ?_; (with_reducible refine (toponymref01_Same.calls k124 (fun k_ => (P_ k_ ∨ w.heap.size ≤ k_) ∧ some k_ ≠ (v21 : Value).ownBlock ∧ some k_ ≠ ((.slice A117 t113.length cp118) : Value).ownBlock) _ _ x17 _ _ l0 t157 _ (Kd.F_mono (ok := (fun k_ => (P_ k_ ∨ w.heap.size ≤ k_) ∧ some k_ ≠ (v21 : Value).ownBlock ∧ some k_ ≠ ((.slice A117 t113.length cp118) : Value).ownBlock)) HF155.out (fun k_ hk_ => ⟨hk_.1, hk_.2.1, hk_.2.2⟩)) HL156.out (Kd.F_mono (ok := (fun k_ => (P_ k_ ∨ w.heap.size ≤ k_) ∧ some k_ ≠ (v21 : Value).ownBlock ∧ some k_ ≠ ((.slice A117 t113.length cp118) : Value).ownBlock)) HF0.out (fun k_ hk_ => ⟨hk_.1, hk_.2.1, hk_.2.2⟩)) HL0.out At158.out).mono ?_); rintro e w' ⟨rfl, ⟨nd, rfl⟩⟩; refine ⟨_, rfl, ?_⟩); refine stop_ ?_)
                  refine Stop.go ?_
                  by_cases c160 : t157 = true
                  · have H := HH.out
                    rw [if_pos c160] at H
                    replace HH := Aside0.mk H
                    clear H
                    subst c160
                    obtain ⟨A161, cp162, he_⟩ := Kd.N_slice HN22.out
                    subst he_
                    have HL164 := Aside0.mk (Kd.N_reads' HN22.out).2.1
                    have HF163 := Aside0.mk (Kd.N_F HN22.out)
                    clear HN22
                    replace HF0 := Aside0.mk (Kd.F_mono (ok := (fun k_ => (P_ k_ ∨ w.heap.size ≤ k_) ∧ some k_ ≠ ((.slice A161 x20.length cp162) : Value).ownBlock ∧ some k_ ≠ ((.slice A117 t113.length cp118) : Value).ownBlock)) HF0.out (fun k_ hk_ => ⟨hk_.1, hk_.2.2⟩) : Kd.F (Kd.int .i32) _ (fun k_ => (P_ k_ ∨ w.heap.size ≤ k_) ∧ some k_ ≠ ((.slice A117 t113.length cp118) : Value).ownBlock) _ _ _)
                    replace HF155 := Aside0.mk (Kd.F_mono (ok := (fun k_ => (P_ k_ ∨ w.heap.size ≤ k_) ∧ some k_ ≠ ((.slice A161 x20.length cp162) : Value).ownBlock ∧ some k_ ≠ ((.slice A117 t113.length cp118) : Value).ownBlock)) HF155.out (fun k_ hk_ => ⟨hk_.1, hk_.2.2⟩) : Kd.F (Kd.int .i32) _ (fun k_ => (P_ k_ ∨ w.heap.size ≤ k_) ∧ some k_ ≠ ((.slice A117 t113.length cp118) : Value).ownBlock) _ _ _)
                    replace HN116 := Aside0.mk (Kd.N_mono (ok := (fun k_ => (P_ k_ ∨ w.heap.size ≤ k_) ∧ some k_ ≠ ((.slice A161 x20.length cp162) : Value).ownBlock)) HN116.out (fun k_ hk_ => hk_.1) : Kd.N (Kd.int .i32) _ _ _ (fun k_ => (P_ k_ ∨ w.heap.size ≤ k_)) _ _)
                    have HL168 := Aside0.mk (Kd.N_reads' HN116.out).2.1
                    have HF167 := Aside0.mk (Kd.N_F HN116.out)
                    clear HN116
                    replace HF0 := Aside0.mk (Kd.F_mono (ok := (fun k_ => (P_ k_ ∨ w.heap.size ≤ k_) ∧ some k_ ≠ ((.slice A117 t113.length cp118) : Value).ownBlock)) HF0.out (fun k_ hk_ => hk_.1) : Kd.F (Kd.int .i32) _ (fun k_ => (P_ k_ ∨ w.heap.size ≤ k_)) _ _ _)
                    replace HF155 := Aside0.mk (Kd.F_mono (ok := (fun k_ => (P_ k_ ∨ w.heap.size ≤ k_) ∧ some k_ ≠ ((.slice A117 t113.length cp118) : Value).ownBlock)) HF155.out (fun k_ hk_ => hk_.1) : Kd.F (Kd.int .i32) _ (fun k_ => (P_ k_ ∨ w.heap.size ≤ k_)) _ _ _)
                    replace HF163 := Aside0.mk (Kd.F_mono (ok := (fun k_ => (P_ k_ ∨ w.heap.size ≤ k_) ∧ some k_ ≠ ((.slice A117 t113.length cp118) : Value).ownBlock)) HF163.out (fun k_ hk_ => hk_.1) : Kd.F (Kd.int .i32) _ (fun k_ => (P_ k_ ∨ w.heap.size ≤ k_)) _ _ _)
                    have H := HH.out
                    replace H := Option.bind_eq_some_iff.mp H
                    obtain ⟨t169, at_, H⟩ := H
                    have At170 := Aside0.mk at_
                    clear at_
                    replace HH := Aside0.mk (show (if t169 = true then ((toponymlaw06_awake.f k124 ).bind fun t173 => (some t173)) else (some false)) = some r from H)
                    clear H
                    go_wp2_with (((with_reducible refine gate_callee (f := 8) rfl ?_); (try (refine gate_guard (by rfl) ?_; dsimp only)); refine goesL_ (some 106) rfl rfl Try.func8 (by kernel_rfl) rfl #[.slice A161 x20.length cp162, .slice A117 t113.length cp118] rfl (by (try simp only [List.map_toArray, List.map_cons, List.map_nil]); first | done | rfl | (simp only [List.length_drop, List.length_take]; rfl)) ?_; (with_reducible refine (toponymref01_Same.calls k124 (fun k_ => (P_ k_ ∨ w.heap.size ≤ k_)) _ _ x20 _ _ t113 t169 _ (Kd.F_mono (ok := (fun k_ => (P_ k_ ∨ w.heap.size ≤ k_))) (by (with_reducible repeat (first | apply Kd.F_alloc | apply Kd.F_drewN | apply Kd.F_drew)); exact HF163.out) (fun k_ hk_ => hk_)) HL164.out (Kd.F_mono (ok := (fun k_ => (P_ k_ ∨ w.heap.size ≤ k_))) (by (with_reducible repeat (first | apply Kd.F_alloc | apply Kd.F_drewN | apply Kd.F_drew)); exact HF167.out) (fun k_ hk_ => hk_)) HL168.out At170.out).mono ?_); rintro e w' ⟨rfl, ⟨nd, rfl⟩⟩; refine ⟨_, rfl, ?_⟩); refine stop_ ?_)
                    refine Stop.go ?_
                    by_cases c172 : t169 = true
                    · have H := HH.out
                      rw [if_pos c172] at H
                      replace HH := Aside0.mk H
                      clear H
                      subst c172
                      have H := HH.out
                      replace H := Option.bind_eq_some_iff.mp H
                      obtain ⟨t173, at_, H⟩ := H
                      have At174 := Aside0.mk at_
                      clear at_
                      replace HH := Aside0.mk (show (some t173) = some r from H)
                      clear H
                      go_wp2_with (((with_reducible refine gate_callee (f := 7) rfl ?_); (try (refine gate_guard (by rfl) ?_; dsimp only)); refine goesL_ (some 109) rfl rfl Try.func7 (by kernel_rfl) rfl #[] rfl (by (try simp only [List.map_toArray, List.map_cons, List.map_nil]); first | done | rfl | (simp only [List.length_drop, List.length_take]; rfl)) ?_; (with_reducible refine (toponymlaw06_awake.calls k124  t173 _  At174.out).mono ?_); rintro e w175 ⟨rfl, hb⟩; refine ⟨_, rfl, ?_⟩); refine stop_ ?_)
                      refine Stop.go ?_
                      replace HF0 := Aside0.mk (Kd.F_below (by (with_reducible repeat (first | apply Kd.F_alloc | apply Kd.F_drewN | apply Kd.F_drew)); exact HF0.out) hb)
                      replace HF155 := Aside0.mk (Kd.F_below (by (with_reducible repeat (first | apply Kd.F_alloc | apply Kd.F_drewN | apply Kd.F_drew)); exact HF155.out) hb)
                      replace HF163 := Aside0.mk (Kd.F_below (by (with_reducible repeat (first | apply Kd.F_alloc | apply Kd.F_drewN | apply Kd.F_drew)); exact HF163.out) hb)
                      replace HF167 := Aside0.mk (Kd.F_below (by (with_reducible repeat (first | apply Kd.F_alloc | apply Kd.F_drewN | apply Kd.F_drew)); exact HF167.out) hb)
                      replace HB := Aside0.mk (below_step (by repeat (first | (with_reducible first | exact HB.out | apply below_alloc | apply pw_below_drewN | apply below_drew1) | exact HB.out)) hb)
                      clear hb
                      have H := HH.out
                      obtain rfl := Option.some.inj H
                      clear HH
                      go_wp2
                      go_ret
                      exact ⟨by first | rfl | (simp; done) | (simp [*]; done), HB.out⟩
                    · have H := HH.out
                      rw [if_neg c172] at H
                      replace HH := Aside0.mk H
                      clear H
                      replace c172 := Bool.eq_false_iff.mpr c172
                      subst c172
                      have H := HH.out
                      obtain rfl := Option.some.inj H
                      clear HH
                      go_wp2
                      go_ret
                      exact ⟨by first | rfl | (simp; done) | (simp [*]; done), (by repeat (first | (with_reducible first | exact HB.out | apply below_alloc | apply pw_below_drewN | apply below_drew1) | exact HB.out))⟩
                  · have H := HH.out
                    rw [if_neg c160] at H
                    replace HH := Aside0.mk H
                    clear H
                    replace c160 := Bool.eq_false_iff.mpr c160
                    subst c160
                    have H := HH.out
                    obtain rfl := Option.some.inj H
                    clear HH
                    go_wp2
                    go_ret
                    exact ⟨by first | rfl | (simp; done) | (simp [*]; done), (by repeat (first | (with_reducible first | exact HB.out | apply below_alloc | apply pw_below_drewN | apply below_drew1) | exact HB.out))⟩
          · have H := HH.out
            rw [if_neg c119] at H
            replace HH := Aside0.mk H
            clear H
            have hk176 : ((t113.length : Int) == (l0.length : Int)) = false := beq_eq_false_iff_ne.mpr c119
            have hk177 : ((t113.length : Int) != (l0.length : Int)) = true := bne_iff_ne.mpr c119
            have hk178 : (t113.length == l0.length) = false := by first | simpa using c119 | (simp at c119 ⊢; omega)
            clear c119
            have H := HH.out
            obtain rfl := Option.some.inj H
            clear HH
            go_wp2
            go_ret
            exact ⟨by first | rfl | (simp; done) | (simp [*]; done), HB.out⟩

end Go.Proofs.Ythdcofcikmeeeaa.GA
