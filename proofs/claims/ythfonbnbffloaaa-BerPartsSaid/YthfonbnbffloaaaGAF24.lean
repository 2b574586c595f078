-- written by wip/gen.py, a program of this session
import Derived.Test.YthfonbnbffloaaaGA0
namespace Go.Proofs.Ythfonbnbffloaaa.GA
open Go.RowKit Go.Proofs.Ythfonbnbffloaaa Go.Proofs.Ythfonbnbffloaaa.MW Go.Proofs.YthfonbnbffloaaaW.PrintWords Go.Proofs.YthfonbnbffloaaaW.PrintLast Go.Proofs.YthfonbnbffloaaaW.PrintMore
attribute [local go_sem] max2_int min2_int max_two min_two
set_option linter.unusedVariables false
set_option linter.unusedSimpArgs false


/-! ### toponymref15_deep: function 24 -/
mutual
def toponymref15_deep.l0 : Nat → Int → Int → Int → (List (S26)) → Option (Int)
  | 0, _, _, _, _ => none
  | k + 1, x13, x14, a1, l0_4 => if x14 < (l0_4.length : Int) then (if a1 > 1 then (if 0 ≤ x14 then ((toponymref15_deep.f k ((rd_T26 l0_4 x14).f0) ((rd_T26 l0_4 x14).f1) ((rd_T26 l0_4 x14).f2) ((rd_T26 l0_4 x14).f3) ((rd_T26 l0_4 x14).f4) (wrap64 (a1 - 1))).bind fun t35 => (if t35 > x13 then ((toponymref15_deep.l0 k t35 (wrap64 (x14 + 1)) a1 l0_4)) else ((toponymref15_deep.l0 k x13 (wrap64 (x14 + 1)) a1 l0_4)))) else (none)) else (some (wrap64 (x13 + 1)))) else (some (wrap64 (x13 + 1)))
def toponymref15_deep.f : Nat → Int → Bool → Int → ByteArray → (List (S26)) → Int → Option (Int)
  | 0, _, _, _, _, _, _ => none
  | k + 1, a0_0, a0_1, a0_2, a0_3, l0_4, a1 => (toponymref15_deep.l0 k 0 0 a1 l0_4)
end
theorem toponymref15_deep.mono_l : ∀ k, (∀ y0 y1 y2 y3 y4 y5, LeO (toponymref15_deep.f k y0 y1 y2 y3 y4 y5) (toponymref15_deep.f (k + 1) y0 y1 y2 y3 y4 y5)) ∧ (∀ y0 y1 y2 y3, LeO (toponymref15_deep.l0 k y0 y1 y2 y3) (toponymref15_deep.l0 (k + 1) y0 y1 y2 y3))
  | 0 => ⟨fun _ _ _ _ _ _ r h => by simp [toponymref15_deep.f] at h, fun _ _ _ _ r h => by simp [toponymref15_deep.l0] at h⟩
  | k + 1 => by
    obtain ⟨ih0, ih1⟩ := toponymref15_deep.mono_l k
    refine ⟨?_, ?_⟩
    · intro y0 y1 y2 y3 y4 y5
      unfold toponymref15_deep.f
      repeat' first
      | (with_reducible exact ih0 _ _ _ _ _ _)
      | (with_reducible exact ih1 _ _ _ _)
      | (with_reducible exact LeO.refl _)
      | (with_reducible exact LeO.none _)
      | (with_reducible refine LeO.ite ?_ ?_)
      | (with_reducible refine LeO.bind ?_ (fun _ => ?_))
      | exact ih0 _ _ _ _ _ _
      | exact ih1 _ _ _ _
      | exact LeO.none _
      | refine LeO.ite ?_ ?_
      | refine LeO.bind ?_ (fun _ => ?_)
    · intro y0 y1 y2 y3
      unfold toponymref15_deep.l0
      repeat' first
      | (with_reducible exact ih0 _ _ _ _ _ _)
      | (with_reducible exact ih1 _ _ _ _)
      | (with_reducible exact LeO.refl _)
      | (with_reducible exact LeO.none _)
      | (with_reducible refine LeO.ite ?_ ?_)
      | (with_reducible refine LeO.bind ?_ (fun _ => ?_))
      | exact ih0 _ _ _ _ _ _
      | exact ih1 _ _ _ _
      | exact LeO.none _
      | refine LeO.ite ?_ ?_
      | refine LeO.bind ?_ (fun _ => ?_)
theorem toponymref15_deep.mono : ∀ a0_ a1_ a2_ a3_ a4_ a5_ k, LeO (toponymref15_deep.f k a0_ a1_ a2_ a3_ a4_ a5_) (toponymref15_deep.f (k + 1) a0_ a1_ a2_ a3_ a4_ a5_) := by
  intro a0_ a1_ a2_ a3_ a4_ a5_ k
  obtain ⟨ih0, ih1⟩ := toponymref15_deep.mono_l k
  exact ih0 a0_ a1_ a2_ a3_ a4_ a5_
set_option maxHeartbeats 8000000 in
set_option maxRecDepth 100000 in
theorem toponymref15_deep.calls (k : Nat) : ∀ (P_ : Nat → Prop) (a0_0 : Int) (a0_1 : Bool) (a0_2 : Int) (a0_3 : ByteArray) (A0_4 : Option Addr) (c0_4 : Nat) (l0_4 : List (S26)) (a1 : Int) (r : Int) (w : World) (hs0_4 : Kd.F k26 w P_ A0_4 l0_4.length l0_4) (hc0_4 : l0_4.length ≤ c0_4) (h : toponymref15_deep.f k a0_0 a0_1 a0_2 a0_3 l0_4 a1 = some r),
    Calls Try.prog 24 #[.agg #[.int .i64 a0_0, .bool a0_1, .int .i64 a0_2, .string a0_3, .slice A0_4 l0_4.length c0_4], .int .i64 a1] w (fun e w' => e = .returned (.int .i64 r) ∧ Below w.heap.size w w') := by
  induction k using Nat.strongRecOn with
  | _ k ih =>
  intro P_ a0_0 a0_1 a0_2 a0_3 A0_4 c0_4 l0_4 a1 r w hs0_4 hc0_4 h
  cases k with
  | zero => exact absurd h (by simp [toponymref15_deep.f])
  | succ k1 =>
  simp only [toponymref15_deep.f] at h
  have HH := Aside0.mk h
  clear h
  have HF0_4 := Aside0.mk (Kd.F_mono hs0_4 (fun k_ hk_ => (.inl hk_ : P_ k_ ∨ w.heap.size ≤ k_)))
  have HL0_4 := Aside0.mk hc0_4
  clear hs0_4 hc0_4
  have HB := Aside0.mk (Below.refl w.heap.size w)
  have hu26 := Try.underlying26
  go_enter Try.func24, Try.ntmps24
  go_wp2_with (((with_reducible refine gate_dst (N := 2) rfl ?_); (try (refine gate_guard (by rfl) ?_; dsimp only)); refine box_event ?hg (N := 2) ?hd (cs := #[.int .i64 a0_0, .bool a0_1, .int .i64 a0_2, .string a0_3, .slice A0_4 l0_4.length c0_4]) (t := 26) ?hr ?_; (case hd => rfl); (case hg => rfl); (case hr => first | (go_simp; done) | (go_simp; rfl)); intro g1 hg w2 hbox hb); replace hg := Aside0.mk hg; replace hbox := Aside0.mk hbox; refine stop_ ?_)
  refine Stop.go ?_
  replace hg := hg.out
  replace hbox := hbox.out
  have GEg1 := Aside0.mk (by rw [hg]; exact (below_size HB.out) : w.heap.size ≤ g1)
  replace HF0_4 := Aside0.mk (Kd.F_elderB HF0_4.out g1 (Nat.le_of_eq hg.symm))
  replace HF0_4 := Aside0.mk (Kd.F_mono HF0_4.out (fun k_ hk_ => ⟨hk_.1, hk_.2⟩) : Kd.F k26 _ (fun k_ => (P_ k_ ∨ w.heap.size ≤ k_) ∧ k_ ≠ g1) _ _ _)
  replace HF0_4 := Aside0.mk (Kd.F_below HF0_4.out hb)
  replace HB := Aside0.mk (below_step HB.out hb)
  have BKg1 := Aside0.mk hbox
  clear hg hbox hb
  obtain ⟨hz3, hz4, hz5, hz6, hz7, hf8, hf9, hf10, hf11, hf12⟩ := MB.lay5 BKg1.out
  go_wp2
  go_loopg [5, 6] k1 (fun kq u5 u6 w' => ∃ (x13 : Int) (x14 : Int), u5 = .int .i64 x13 ∧ u6 = .int .i64 x14 ∧ Aside0 ((toponymref15_deep.l0 kq x13 x14 a1 l0_4) = some r) ∧ Aside0 (kq ≤ k1) ∧ Aside0 (Kd.F k26 w' (fun k_ => (P_ k_ ∨ w.heap.size ≤ k_) ∧ k_ ≠ g1) A0_4 l0_4.length l0_4) ∧ Aside0 (w'.heap[g1]? = some (.cells #[.int .i64 a0_0, .bool a0_1, .int .i64 a0_2, .string a0_3, .slice A0_4 l0_4.length c0_4] 26 (0, 0))) ∧ Aside0 (Below w.heap.size w w'))
  case atStart => exact ⟨0, 0, (by first | rfl | (simp; done) | (simp [*]; done)), (by first | rfl | (simp; done) | (simp [*]; done)), HH, ⟨Nat.le_refl _⟩, ⟨(Kd.F_mono (ok := (fun k_ => (P_ k_ ∨ w.heap.size ≤ k_) ∧ k_ ≠ g1)) HF0_4.out (fun k_ hk_ => ⟨hk_.1, hk_.2⟩))⟩, ⟨BKg1.out⟩, ⟨HB.out⟩⟩
  case round =>
    clear hz3 hz4 hz5 hz6 hz7 hf8 hf9 hf10 hf11 hf12
    clear HH
    clear HF0_4 BKg1 HB
    obtain ⟨x13, x14, rfl, rfl, HA, HK0, HF0_4, BKg1, HB⟩ := hrel
    obtain ⟨w16, rfl⟩ : ∃ wo_ : World, wo_ = wr := ⟨_, rfl⟩
    cases gk with
    | zero => exact absurd HA.out (by simp [toponymref15_deep.l0])
    | succ k15 =>
      have H := HA.out
      clear HA
      simp only [toponymref15_deep.l0] at H
      have HH := Aside0.mk H
      clear H
      obtain ⟨hz17, hz18, hz19, hz20, hz21, hf22, hf23, hf24, hf25, hf26⟩ := MB.lay5 BKg1.out
      by_cases c27 : x14 < (l0_4.length : Int)
      · have H := HH.out
        rw [if_pos c27] at H
        replace HH := Aside0.mk H
        clear H
        have hk28 : (x14 < (l0_4.length : Int)) = True := eq_true c27
        have hk29 : decide (x14 < (l0_4.length : Int)) = true := decide_eq_true c27
        clear c27
        by_cases c30 : a1 > 1
        · have H := HH.out
          rw [if_pos c30] at H
          replace HH := Aside0.mk H
          clear H
          have hk31 : decide (1 < a1) = true := decide_eq_true c30
          clear c30
          by_cases c32 : 0 ≤ x14
          · have H := HH.out
            rw [if_pos c32] at H
            replace HH := Aside0.mk H
            clear H
            have hk33 : decide (0 ≤ x14) = true := decide_eq_true c32
            clear c32
            have p34 : 0 ≤ (x14 : Int) := of_decide_eq_true (by first | (with_reducible assumption) | assumption)
            have q34 : x14 < (l0_4.length : Int) := of_decide_eq_true (by first | (with_reducible assumption) | assumption)
            obtain ⟨ad34, A34_4, c34_4, e34, hx34_0, hx34_1, hx34_2, hx34_3, hx34_4, hl34_4, hi34_4⟩ := atF_T26 HF0_4.out x14 p34 q34
            cases e34
            have HF34_4 := Aside0.mk hi34_4
            have HL34_4 := Aside0.mk hl34_4
            clear hi34_4 hl34_4
            replace p34 := eq_true p34
            replace q34 := eq_true q34
            have H := HH.out
            replace H := Option.bind_eq_some_iff.mp H
            obtain ⟨t35, at_, H⟩ := H
            have At36 := Aside0.mk at_
            clear at_
            replace HH := Aside0.mk (show (if t35 > x13 then ((toponymref15_deep.l0 k15 t35 (wrap64 (x14 + 1)) a1 l0_4)) else ((toponymref15_deep.l0 k15 x13 (wrap64 (x14 + 1)) a1 l0_4))) = some r from H)
            clear H
            go_wp2_with (((with_reducible refine gate_callee (f := 24) rfl ?_); (try (refine gate_guard (by rfl) ?_; dsimp only)); refine goesL_ (some 26) rfl rfl Try.func24 (by kernel_rfl) rfl #[.agg #[.int .i64 ((rd_T26 l0_4 x14).f0), .bool ((rd_T26 l0_4 x14).f1), .int .i64 ((rd_T26 l0_4 x14).f2), .string ((rd_T26 l0_4 x14).f3), .slice A34_4 ((rd_T26 l0_4 x14).f4).length c34_4], .int .i64 (wrap64 (a1 - 1))] rfl (by (try simp only [List.map_toArray, List.map_cons, List.map_nil]); first | done | rfl | (simp only [List.length_drop, List.length_take]; rfl)) ?_; (with_reducible refine (ih k15 (by have := HK0.out; omega) (fun k_ => (P_ k_ ∨ w.heap.size ≤ k_) ∧ k_ ≠ g1) ((rd_T26 l0_4 x14).f0) ((rd_T26 l0_4 x14).f1) ((rd_T26 l0_4 x14).f2) ((rd_T26 l0_4 x14).f3) _ _ ((rd_T26 l0_4 x14).f4) (wrap64 (a1 - 1)) t35 _ (Kd.F_mono (ok := (fun k_ => (P_ k_ ∨ w.heap.size ≤ k_) ∧ k_ ≠ g1)) HF34_4.out (fun k_ hk_ => ⟨hk_.1, hk_.2⟩)) HL34_4.out At36.out).mono ?_); rintro e w37 ⟨rfl, hb⟩; refine ⟨_, rfl, ?_⟩); refine stop_ ?_)
            refine Stop.go ?_
            replace HF0_4 := Aside0.mk (Kd.F_below HF0_4.out hb)
            replace HF34_4 := Aside0.mk (Kd.F_below HF34_4.out hb)
            replace BKg1 := Aside0.mk (blk_below (o := .cells #[.int .i64 a0_0, .bool a0_1, .int .i64 a0_2, .string a0_3, .slice (some ad34) l0_4.length c0_4] 26 (0, 0)) BKg1.out hb)
            replace HB := Aside0.mk (below_step HB.out hb)
            clear hb
            clear hz17 hz18 hz19 hz20 hz21 hf22 hf23 hf24 hf25 hf26 hx34_0 hx34_1 hx34_2 hx34_3 hx34_4 p34 q34
            obtain ⟨hz38, hz39, hz40, hz41, hz42, hf43, hf44, hf45, hf46, hf47⟩ := MB.lay5 BKg1.out
            by_cases c48 : t35 > x13
            · have H := HH.out
              rw [if_pos c48] at H
              replace HH := Aside0.mk H
              clear H
              have hk49 : decide (x13 < t35) = true := decide_eq_true c48
              clear c48
              go_wp2
              go_roundg k15
              case measure => have := HK0.out; omega
              case rel => exact ⟨t35, wrap64 (x14 + 1), (by first | rfl | (simp; done) | (simp [*]; done)), (by first | rfl | (simp; done) | (simp [*]; done)), HH, ⟨by have := HK0.out; omega⟩, ⟨(Kd.F_mono (ok := (fun k_ => (P_ k_ ∨ w.heap.size ≤ k_) ∧ k_ ≠ g1)) HF0_4.out (fun k_ hk_ => ⟨hk_.1, hk_.2⟩))⟩, ⟨BKg1.out⟩, ⟨HB.out⟩⟩
            · have H := HH.out
              rw [if_neg c48] at H
              replace HH := Aside0.mk H
              clear H
              have hk50 : decide (x13 < t35) = false := decide_eq_false c48
              clear c48
              go_wp2
              go_roundg k15
              case measure => have := HK0.out; omega
              case rel => exact ⟨x13, wrap64 (x14 + 1), (by first | rfl | (simp; done) | (simp [*]; done)), (by first | rfl | (simp; done) | (simp [*]; done)), HH, ⟨by have := HK0.out; omega⟩, ⟨(Kd.F_mono (ok := (fun k_ => (P_ k_ ∨ w.heap.size ≤ k_) ∧ k_ ≠ g1)) HF0_4.out (fun k_ hk_ => ⟨hk_.1, hk_.2⟩))⟩, ⟨BKg1.out⟩, ⟨HB.out⟩⟩
          · exact absurd HH.out (by rw [if_neg c32]; simp)
        · have H := HH.out
          rw [if_neg c30] at H
          replace HH := Aside0.mk H
          clear H
          have hk52 : decide (1 < a1) = false := decide_eq_false c30
          clear c30
          have H := HH.out
          obtain rfl := Option.some.inj H
          clear HH
          go_wp2
          go_ret
          exact ⟨by first | rfl | (simp; done) | (simp [*]; done), HB.out⟩
      · have H := HH.out
        rw [if_neg c27] at H
        replace HH := Aside0.mk H
        clear H
        have hk53 : (x14 < (l0_4.length : Int)) = False := eq_false c27
        have hk54 : decide (x14 < (l0_4.length : Int)) = false := decide_eq_false c27
        clear c27
        have H := HH.out
        obtain rfl := Option.some.inj H
        clear HH
        go_wp2
        go_ret
        exact ⟨by first | rfl | (simp; done) | (simp [*]; done), HB.out⟩

end Go.Proofs.Ythfonbnbffloaaa.GA
