-- written by wip/gen.py, a program of this session
import Derived.Test.YthfonbnbffloaaaGA0
namespace Go.Proofs.Ythfonbnbffloaaa.GA
open Go.RowKit Go.Proofs.Ythfonbnbffloaaa Go.Proofs.Ythfonbnbffloaaa.MW Go.Proofs.YthfonbnbffloaaaW.PrintWords Go.Proofs.YthfonbnbffloaaaW.PrintLast Go.Proofs.YthfonbnbffloaaaW.PrintMore
attribute [local go_sem] max2_int min2_int max_two min_two
set_option linter.unusedVariables false
set_option linter.unusedSimpArgs false


/-! ### toponymlaw15_Few: function 8 -/
mutual
def toponymlaw15_Few.l0 : Nat → Int → Int → (List (S26)) → Option (Int)
  | 0, _, _, _ => none
  | k + 1, x18, x19, l0_4 => if x19 < (l0_4.length : Int) then (if x18 ≥ 0 then (if 0 ≤ x19 then ((toponymlaw15_Few.f k ((rd_T26 l0_4 x19).f0) ((rd_T26 l0_4 x19).f1) ((rd_T26 l0_4 x19).f2) ((rd_T26 l0_4 x19).f3) ((rd_T26 l0_4 x19).f4) x18).bind fun t40 => ((toponymlaw15_Few.l0 k t40 (wrap64 (x19 + 1)) l0_4))) else (none)) else (some x18)) else (some x18)
def toponymlaw15_Few.f : Nat → Int → Bool → Int → ByteArray → (List (S26)) → Int → Option (Int)
  | 0, _, _, _, _, _, _ => none
  | k + 1, a0_0, a0_1, a0_2, a0_3, l0_4, a1 => if (a0_3.size : Int) > 5000 then (some (-1)) else ((toponymlaw15_Few.l0 k (wrap64 (a1 - 1)) 0 l0_4))
end
theorem toponymlaw15_Few.mono_l : ∀ k, (∀ y0 y1 y2 y3 y4 y5, LeO (toponymlaw15_Few.f k y0 y1 y2 y3 y4 y5) (toponymlaw15_Few.f (k + 1) y0 y1 y2 y3 y4 y5)) ∧ (∀ y0 y1 y2, LeO (toponymlaw15_Few.l0 k y0 y1 y2) (toponymlaw15_Few.l0 (k + 1) y0 y1 y2))
  | 0 => ⟨fun _ _ _ _ _ _ r h => by simp [toponymlaw15_Few.f] at h, fun _ _ _ r h => by simp [toponymlaw15_Few.l0] at h⟩
  | k + 1 => by
    obtain ⟨ih0, ih1⟩ := toponymlaw15_Few.mono_l k
    refine ⟨?_, ?_⟩
    · intro y0 y1 y2 y3 y4 y5
      unfold toponymlaw15_Few.f
      repeat' first
      | (with_reducible exact ih0 _ _ _ _ _ _)
      | (with_reducible exact ih1 _ _ _)
      | (with_reducible exact LeO.refl _)
      | (with_reducible exact LeO.none _)
      | (with_reducible refine LeO.ite ?_ ?_)
      | (with_reducible refine LeO.bind ?_ (fun _ => ?_))
      | exact ih0 _ _ _ _ _ _
      | exact ih1 _ _ _
      | exact LeO.none _
      | refine LeO.ite ?_ ?_
      | refine LeO.bind ?_ (fun _ => ?_)
    · intro y0 y1 y2
      unfold toponymlaw15_Few.l0
      repeat' first
      | (with_reducible exact ih0 _ _ _ _ _ _)
      | (with_reducible exact ih1 _ _ _)
      | (with_reducible exact LeO.refl _)
      | (with_reducible exact LeO.none _)
      | (with_reducible refine LeO.ite ?_ ?_)
      | (with_reducible refine LeO.bind ?_ (fun _ => ?_))
      | exact ih0 _ _ _ _ _ _
      | exact ih1 _ _ _
      | exact LeO.none _
      | refine LeO.ite ?_ ?_
      | refine LeO.bind ?_ (fun _ => ?_)
theorem toponymlaw15_Few.mono : ∀ a0_ a1_ a2_ a3_ a4_ a5_ k, LeO (toponymlaw15_Few.f k a0_ a1_ a2_ a3_ a4_ a5_) (toponymlaw15_Few.f (k + 1) a0_ a1_ a2_ a3_ a4_ a5_) := by
  intro a0_ a1_ a2_ a3_ a4_ a5_ k
  obtain ⟨ih0, ih1⟩ := toponymlaw15_Few.mono_l k
  exact ih0 a0_ a1_ a2_ a3_ a4_ a5_
set_option maxHeartbeats 8000000 in
set_option maxRecDepth 100000 in
theorem toponymlaw15_Few.calls (k : Nat) : ∀ (P_ : Nat → Prop) (a0_0 : Int) (a0_1 : Bool) (a0_2 : Int) (a0_3 : ByteArray) (A0_4 : Option Addr) (c0_4 : Nat) (l0_4 : List (S26)) (a1 : Int) (r : Int) (w : World) (hs0_4 : Kd.F k26 w P_ A0_4 l0_4.length l0_4) (hc0_4 : l0_4.length ≤ c0_4) (h : toponymlaw15_Few.f k a0_0 a0_1 a0_2 a0_3 l0_4 a1 = some r),
    Calls Try.prog 8 #[.agg #[.int .i64 a0_0, .bool a0_1, .int .i64 a0_2, .string a0_3, .slice A0_4 l0_4.length c0_4], .int .i64 a1] w (fun e w' => e = .returned (.int .i64 r) ∧ Below w.heap.size w w') := by
  induction k using Nat.strongRecOn with
  | _ k ih =>
  intro P_ a0_0 a0_1 a0_2 a0_3 A0_4 c0_4 l0_4 a1 r w hs0_4 hc0_4 h
  cases k with
  | zero => exact absurd h (by simp [toponymlaw15_Few.f])
  | succ k1 =>
  simp only [toponymlaw15_Few.f] at h
  have HH := Aside0.mk h
  clear h
  have HF0_4 := Aside0.mk (Kd.F_mono hs0_4 (fun k_ hk_ => (.inl hk_ : P_ k_ ∨ w.heap.size ≤ k_)))
  have HL0_4 := Aside0.mk hc0_4
  clear hs0_4 hc0_4
  have HB := Aside0.mk (Below.refl w.heap.size w)
  have hu26 := Try.underlying26
  go_enter Try.func8, Try.ntmps8
  go_wp2_with (((with_reducible refine gate_dst (N := 2) rfl ?_); (try (refine gate_guard (by rfl) ?_; dsimp only)); refine box_event ?hg (N := 2) ?hd (cs := #[.int .i64 a0_0, .bool a0_1, .int .i64 a0_2, .string a0_3, .slice A0_4 l0_4.length c0_4]) (t := 26) ?hr ?_; (case hd => rfl); (case hg => rfl); (case hr => first | (go_simp; done) | (go_simp; rfl)); intro g1 hg w2 hbox hb); replace hg := Aside0.mk hg; replace hbox := Aside0.mk hbox; refine stop_ ?_)
  refine Stop.go ?_
  replace hg := hg.out
  replace hbox := hbox.out
  have GEg1 := Aside0.mk (by rw [hg]; exact (below_size HB.out) : w.heap.size ≤ g1)
  replace HF0_4 := Aside0.mk (Kd.F_elderB HF0_4.out g1 (Nat.le_of_eq hg.symm))
  replace HF0_4 := Aside0.mk (Kd.F_mono HF0_4.out (fun k_ hk_ => ⟨hk_.1, hk_.2⟩) : Kd.F k26 _ (fun k_ => (P_ k_ ∨ w.heap.size ≤ k_) ∧ k_ ≠ g1) _ _ _)
  replace HF0_4 := Aside0.mk (Kd.F_below HF0_4.out hb)
  replace HB := Aside0.mk (below_step HB.out hb)
  have BKg1 := Aside0.mk hbox
  clear hg hbox hb
  obtain ⟨hz3, hz4, hz5, hz6, hz7, hf8, hf9, hf10, hf11, hf12⟩ := MB.lay5 BKg1.out
  by_cases c13 : (a0_3.size : Int) > 5000
  · have H := HH.out
    rw [if_pos c13] at H
    replace HH := Aside0.mk H
    clear H
    have hk14 : decide (5000 < (a0_3.size : Int)) = true := decide_eq_true c13
    have hk15 : decide (5000 < a0_3.size) = true := decide_eq_true (by omega)
    clear c13
    have H := HH.out
    obtain rfl := Option.some.inj H
    clear HH
    go_wp2
    go_ret
    exact ⟨by first | rfl | (simp; done) | (simp [*]; done), HB.out⟩
  · have H := HH.out
    rw [if_neg c13] at H
    replace HH := Aside0.mk H
    clear H
    have hk16 : decide (5000 < (a0_3.size : Int)) = false := decide_eq_false c13
    have hk17 : decide (5000 < a0_3.size) = false := decide_eq_false (by omega)
    clear c13
    go_wp2
    go_loopg [1, 5] k1 (fun kq u1 u5 w' => ∃ (x18 : Int) (x19 : Int), u1 = .int .i64 x18 ∧ u5 = .int .i64 x19 ∧ Aside0 ((toponymlaw15_Few.l0 kq x18 x19 l0_4) = some r) ∧ Aside0 (kq ≤ k1) ∧ Aside0 (Kd.F k26 w' (fun k_ => (P_ k_ ∨ w.heap.size ≤ k_) ∧ k_ ≠ g1) A0_4 l0_4.length l0_4) ∧ Aside0 (w'.heap[g1]? = some (.cells #[.int .i64 a0_0, .bool a0_1, .int .i64 a0_2, .string a0_3, .slice A0_4 l0_4.length c0_4] 26 (0, 0))) ∧ Aside0 (Below w.heap.size w w'))
    case atStart => exact ⟨wrap64 (a1 - 1), 0, (by first | rfl | (simp; done) | (simp [*]; done)), (by first | rfl | (simp; done) | (simp [*]; done)), HH, ⟨Nat.le_refl _⟩, ⟨(Kd.F_mono (ok := (fun k_ => (P_ k_ ∨ w.heap.size ≤ k_) ∧ k_ ≠ g1)) HF0_4.out (fun k_ hk_ => ⟨hk_.1, hk_.2⟩))⟩, ⟨BKg1.out⟩, ⟨HB.out⟩⟩
    case round =>
      clear hz3 hz4 hz5 hz6 hz7 hf8 hf9 hf10 hf11 hf12
      clear hk16
      clear hk17
      clear HH
      clear HF0_4 BKg1 HB
      obtain ⟨x18, x19, rfl, rfl, HA, HK0, HF0_4, BKg1, HB⟩ := hrel
      obtain ⟨w21, rfl⟩ : ∃ wo_ : World, wo_ = wr := ⟨_, rfl⟩
      cases gk with
      | zero => exact absurd HA.out (by simp [toponymlaw15_Few.l0])
      | succ k20 =>
        have H := HA.out
        clear HA
        simp only [toponymlaw15_Few.l0] at H
        have HH := Aside0.mk H
        clear H
        obtain ⟨hz22, hz23, hz24, hz25, hz26, hf27, hf28, hf29, hf30, hf31⟩ := MB.lay5 BKg1.out
        by_cases c32 : x19 < (l0_4.length : Int)
        · have H := HH.out
          rw [if_pos c32] at H
          replace HH := Aside0.mk H
          clear H
          have hk33 : (x19 < (l0_4.length : Int)) = True := eq_true c32
          have hk34 : decide (x19 < (l0_4.length : Int)) = true := decide_eq_true c32
          clear c32
          by_cases c35 : x18 ≥ 0
          · have H := HH.out
            rw [if_pos c35] at H
            replace HH := Aside0.mk H
            clear H
            have hk36 : decide (0 ≤ x18) = true := decide_eq_true c35
            clear c35
            by_cases c37 : 0 ≤ x19
            · have H := HH.out
              rw [if_pos c37] at H
              replace HH := Aside0.mk H
              clear H
              have hk38 : decide (0 ≤ x19) = true := decide_eq_true c37
              clear c37
              have p39 : 0 ≤ (x19 : Int) := of_decide_eq_true (by first | (with_reducible assumption) | assumption)
              have q39 : x19 < (l0_4.length : Int) := of_decide_eq_true (by first | (with_reducible assumption) | assumption)
              obtain ⟨ad39, A39_4, c39_4, e39, hx39_0, hx39_1, hx39_2, hx39_3, hx39_4, hl39_4, hi39_4⟩ := atF_T26 HF0_4.out x19 p39 q39
              cases e39
              have HF39_4 := Aside0.mk hi39_4
              have HL39_4 := Aside0.mk hl39_4
              clear hi39_4 hl39_4
              replace p39 := eq_true p39
              replace q39 := eq_true q39
              have H := HH.out
              replace H := Option.bind_eq_some_iff.mp H
              obtain ⟨t40, at_, H⟩ := H
              have At41 := Aside0.mk at_
              clear at_
              replace HH := Aside0.mk (show ((toponymlaw15_Few.l0 k20 t40 (wrap64 (x19 + 1)) l0_4)) = some r from H)
              clear H
              go_wp2_with (((with_reducible refine gate_callee (f := 8) rfl ?_); (try (refine gate_guard (by rfl) ?_; dsimp only)); refine goesL_ (some 29) rfl rfl Try.func8 (by kernel_rfl) rfl #[.agg #[.int .i64 ((rd_T26 l0_4 x19).f0), .bool ((rd_T26 l0_4 x19).f1), .int .i64 ((rd_T26 l0_4 x19).f2), .string ((rd_T26 l0_4 x19).f3), .slice A39_4 ((rd_T26 l0_4 x19).f4).length c39_4], .int .i64 x18] rfl (by (try simp only [List.map_toArray, List.map_cons, List.map_nil]); first | done | rfl | (simp only [List.length_drop, List.length_take]; rfl)) ?_; (with_reducible refine (ih k20 (by have := HK0.out; omega) (fun k_ => (P_ k_ ∨ w.heap.size ≤ k_) ∧ k_ ≠ g1) ((rd_T26 l0_4 x19).f0) ((rd_T26 l0_4 x19).f1) ((rd_T26 l0_4 x19).f2) ((rd_T26 l0_4 x19).f3) _ _ ((rd_T26 l0_4 x19).f4) x18 t40 _ (Kd.F_mono (ok := (fun k_ => (P_ k_ ∨ w.heap.size ≤ k_) ∧ k_ ≠ g1)) HF39_4.out (fun k_ hk_ => ⟨hk_.1, hk_.2⟩)) HL39_4.out At41.out).mono ?_); rintro e w42 ⟨rfl, hb⟩; refine ⟨_, rfl, ?_⟩); refine stop_ ?_)
              refine Stop.go ?_
              replace HF0_4 := Aside0.mk (Kd.F_below HF0_4.out hb)
              replace HF39_4 := Aside0.mk (Kd.F_below HF39_4.out hb)
              replace BKg1 := Aside0.mk (blk_below (o := .cells #[.int .i64 a0_0, .bool a0_1, .int .i64 a0_2, .string a0_3, .slice (some ad39) l0_4.length c0_4] 26 (0, 0)) BKg1.out hb)
              replace HB := Aside0.mk (below_step HB.out hb)
              clear hb
              clear hz22 hz23 hz24 hz25 hz26 hf27 hf28 hf29 hf30 hf31 hx39_0 hx39_1 hx39_2 hx39_3 hx39_4 p39 q39
              obtain ⟨hz43, hz44, hz45, hz46, hz47, hf48, hf49, hf50, hf51, hf52⟩ := MB.lay5 BKg1.out
              go_wp2
              go_roundg k20
              case measure => have := HK0.out; omega
              case rel => exact ⟨t40, wrap64 (x19 + 1), (by first | rfl | (simp; done) | (simp [*]; done)), (by first | rfl | (simp; done) | (simp [*]; done)), HH, ⟨by have := HK0.out; omega⟩, ⟨(Kd.F_mono (ok := (fun k_ => (P_ k_ ∨ w.heap.size ≤ k_) ∧ k_ ≠ g1)) HF0_4.out (fun k_ hk_ => ⟨hk_.1, hk_.2⟩))⟩, ⟨BKg1.out⟩, ⟨HB.out⟩⟩
            · exact absurd HH.out (by rw [if_neg c37]; simp)
          · have H := HH.out
            rw [if_neg c35] at H
            replace HH := Aside0.mk H
            clear H
            have hk54 : decide (0 ≤ x18) = false := decide_eq_false c35
            clear c35
            have H := HH.out
            obtain rfl := Option.some.inj H
            clear HH
            go_wp2
            go_ret
            exact ⟨by first | rfl | (simp; done) | (simp [*]; done), HB.out⟩
        · have H := HH.out
          rw [if_neg c32] at H
          replace HH := Aside0.mk H
          clear H
          have hk55 : (x19 < (l0_4.length : Int)) = False := eq_false c32
          have hk56 : decide (x19 < (l0_4.length : Int)) = false := decide_eq_false c32
          clear c32
          have H := HH.out
          obtain rfl := Option.some.inj H
          clear HH
          go_wp2
          go_ret
          exact ⟨by first | rfl | (simp; done) | (simp [*]; done), HB.out⟩

end Go.Proofs.Ythfonbnbffloaaa.GA
