-- written by wip/gen.py, a program of this session
import Derived.Test.YthfonbnbffloaaaGA0
namespace Go.Proofs.Ythfonbnbffloaaa.GA
open Go.RowKit Go.Proofs.Ythfonbnbffloaaa Go.Proofs.Ythfonbnbffloaaa.MW Go.Proofs.YthfonbnbffloaaaW.PrintWords Go.Proofs.YthfonbnbffloaaaW.PrintLast Go.Proofs.YthfonbnbffloaaaW.PrintMore
attribute [local go_sem] max2_int min2_int max_two min_two
set_option linter.unusedVariables false
set_option linter.unusedSimpArgs false


/-! ### toponymref15_Same, toponymref15_SameAll: functions 16, 18 -/
mutual
def toponymref15_Same.f : Nat → Int → Bool → Int → ByteArray → (List (S26)) → Int → Bool → Int → ByteArray → (List (S26)) → Option (Bool)
  | 0, _, _, _, _, _, _, _, _, _, _ => none
  | k + 1, a0_0, a0_1, a0_2, a0_3, l0_4, a1_0, a1_1, a1_2, a1_3, l1_4 => if a0_0 = a1_0 then (if (a0_1 == a1_1) = true then (if a0_2 = a1_2 then (if a0_3.toList = a1_3.toList then ((toponymref15_SameAll.f k l0_4 l1_4).bind fun t48 => (some t48)) else (some false)) else (some false)) else (some false)) else (some false)
def toponymref15_SameAll.l0 : Nat → Int → (List (S26)) → (List (S26)) → Option (Bool)
  | 0, _, _, _ => none
  | k + 1, x5, l0, l1 => if x5 < (l0.length : Int) then (if 0 ≤ x5 then (if x5 < (l1.length : Int) then ((toponymref15_Same.f k ((rd_T26 l0 x5).f0) ((rd_T26 l0 x5).f1) ((rd_T26 l0 x5).f2) ((rd_T26 l0 x5).f3) ((rd_T26 l0 x5).f4) ((rd_T26 l1 x5).f0) ((rd_T26 l1 x5).f1) ((rd_T26 l1 x5).f2) ((rd_T26 l1 x5).f3) ((rd_T26 l1 x5).f4)).bind fun t19 => (if t19 = true then ((toponymref15_SameAll.l0 k (wrap64 (x5 + 1)) l0 l1)) else (some false))) else (none)) else (none)) else (some true)
def toponymref15_SameAll.f : Nat → (List (S26)) → (List (S26)) → Option (Bool)
  | 0, _, _ => none
  | k + 1, l0, l1 => if (l0.length : Int) = (l1.length : Int) then ((toponymref15_SameAll.l0 k 0 l0 l1)) else (some false)
end
theorem toponymref15_Same.mono_l : ∀ k, (∀ y0 y1 y2 y3 y4 y5 y6 y7 y8 y9, LeO (toponymref15_Same.f k y0 y1 y2 y3 y4 y5 y6 y7 y8 y9) (toponymref15_Same.f (k + 1) y0 y1 y2 y3 y4 y5 y6 y7 y8 y9)) ∧ (∀ y0 y1, LeO (toponymref15_SameAll.f k y0 y1) (toponymref15_SameAll.f (k + 1) y0 y1)) ∧ (∀ y0 y1 y2, LeO (toponymref15_SameAll.l0 k y0 y1 y2) (toponymref15_SameAll.l0 (k + 1) y0 y1 y2))
  | 0 => ⟨fun _ _ _ _ _ _ _ _ _ _ r h => by simp [toponymref15_Same.f] at h, fun _ _ r h => by simp [toponymref15_SameAll.f] at h, fun _ _ _ r h => by simp [toponymref15_SameAll.l0] at h⟩
  | k + 1 => by
    obtain ⟨ih0, ih1, ih2⟩ := toponymref15_Same.mono_l k
    refine ⟨?_, ?_, ?_⟩
    · intro y0 y1 y2 y3 y4 y5 y6 y7 y8 y9
      unfold toponymref15_Same.f
      repeat' first
      | (with_reducible exact ih0 _ _ _ _ _ _ _ _ _ _)
      | (with_reducible exact ih1 _ _)
      | (with_reducible exact ih2 _ _ _)
      | (with_reducible exact LeO.refl _)
      | (with_reducible exact LeO.none _)
      | (with_reducible refine LeO.ite ?_ ?_)
      | (with_reducible refine LeO.bind ?_ (fun _ => ?_))
      | exact ih0 _ _ _ _ _ _ _ _ _ _
      | exact ih1 _ _
      | exact ih2 _ _ _
      | exact LeO.none _
      | refine LeO.ite ?_ ?_
      | refine LeO.bind ?_ (fun _ => ?_)
    · intro y0 y1
      unfold toponymref15_SameAll.f
      repeat' first
      | (with_reducible exact ih0 _ _ _ _ _ _ _ _ _ _)
      | (with_reducible exact ih1 _ _)
      | (with_reducible exact ih2 _ _ _)
      | (with_reducible exact LeO.refl _)
      | (with_reducible exact LeO.none _)
      | (with_reducible refine LeO.ite ?_ ?_)
      | (with_reducible refine LeO.bind ?_ (fun _ => ?_))
      | exact ih0 _ _ _ _ _ _ _ _ _ _
      | exact ih1 _ _
      | exact ih2 _ _ _
      | exact LeO.none _
      | refine LeO.ite ?_ ?_
      | refine LeO.bind ?_ (fun _ => ?_)
    · intro y0 y1 y2
      unfold toponymref15_SameAll.l0
      repeat' first
      | (with_reducible exact ih0 _ _ _ _ _ _ _ _ _ _)
      | (with_reducible exact ih1 _ _)
      | (with_reducible exact ih2 _ _ _)
      | (with_reducible exact LeO.refl _)
      | (with_reducible exact LeO.none _)
      | (with_reducible refine LeO.ite ?_ ?_)
      | (with_reducible refine LeO.bind ?_ (fun _ => ?_))
      | exact ih0 _ _ _ _ _ _ _ _ _ _
      | exact ih1 _ _
      | exact ih2 _ _ _
      | exact LeO.none _
      | refine LeO.ite ?_ ?_
      | refine LeO.bind ?_ (fun _ => ?_)
theorem toponymref15_Same.mono : ∀ a0_ a1_ a2_ a3_ a4_ a5_ a6_ a7_ a8_ a9_ k, LeO (toponymref15_Same.f k a0_ a1_ a2_ a3_ a4_ a5_ a6_ a7_ a8_ a9_) (toponymref15_Same.f (k + 1) a0_ a1_ a2_ a3_ a4_ a5_ a6_ a7_ a8_ a9_) := by
  intro a0_ a1_ a2_ a3_ a4_ a5_ a6_ a7_ a8_ a9_ k
  obtain ⟨ih0, ih1, ih2⟩ := toponymref15_Same.mono_l k
  exact ih0 a0_ a1_ a2_ a3_ a4_ a5_ a6_ a7_ a8_ a9_
theorem toponymref15_SameAll.mono : ∀ a0_ a1_ k, LeO (toponymref15_SameAll.f k a0_ a1_) (toponymref15_SameAll.f (k + 1) a0_ a1_) := by
  intro a0_ a1_ k
  obtain ⟨ih0, ih1, ih2⟩ := toponymref15_Same.mono_l k
  exact ih1 a0_ a1_
set_option maxHeartbeats 8000000 in
set_option maxRecDepth 100000 in
theorem toponymref15_Same.group (k : Nat) : (∀ (P_ : Nat → Prop) (a0_0 : Int) (a0_1 : Bool) (a0_2 : Int) (a0_3 : ByteArray) (A0_4 : Option Addr) (c0_4 : Nat) (l0_4 : List (S26)) (a1_0 : Int) (a1_1 : Bool) (a1_2 : Int) (a1_3 : ByteArray) (A1_4 : Option Addr) (c1_4 : Nat) (l1_4 : List (S26)) (r : Bool) (w : World) (hs0_4 : Kd.F k26 w P_ A0_4 l0_4.length l0_4) (hc0_4 : l0_4.length ≤ c0_4) (hs1_4 : Kd.F k26 w P_ A1_4 l1_4.length l1_4) (hc1_4 : l1_4.length ≤ c1_4) (h : toponymref15_Same.f k a0_0 a0_1 a0_2 a0_3 l0_4 a1_0 a1_1 a1_2 a1_3 l1_4 = some r),
    Calls Try.prog 16 #[.agg #[.int .i64 a0_0, .bool a0_1, .int .i64 a0_2, .string a0_3, .slice A0_4 l0_4.length c0_4], .agg #[.int .i64 a1_0, .bool a1_1, .int .i64 a1_2, .string a1_3, .slice A1_4 l1_4.length c1_4]] w (fun e w' => e = .returned (.bool r) ∧ Below w.heap.size w w')) ∧
    (∀ (P_ : Nat → Prop) (A0 : Option Addr) (c0 : Nat) (l0 : List (S26)) (A1 : Option Addr) (c1 : Nat) (l1 : List (S26)) (r : Bool) (w : World) (hs0 : Kd.F k26 w P_ A0 l0.length l0) (hc0 : l0.length ≤ c0) (hs1 : Kd.F k26 w P_ A1 l1.length l1) (hc1 : l1.length ≤ c1) (h : toponymref15_SameAll.f k l0 l1 = some r),
    Calls Try.prog 18 #[.slice A0 l0.length c0, .slice A1 l1.length c1] w (fun e w' => e = .returned (.bool r) ∧ Below w.heap.size w w')) := by
  induction k using Nat.strongRecOn with
  | _ k ih =>
  refine ⟨?_, ?_⟩
  · intro P_ a0_0 a0_1 a0_2 a0_3 A0_4 c0_4 l0_4 a1_0 a1_1 a1_2 a1_3 A1_4 c1_4 l1_4 r w hs0_4 hc0_4 hs1_4 hc1_4 h
    cases k with
    | zero => exact absurd h (by simp [toponymref15_Same.f])
    | succ k1 =>
    simp only [toponymref15_Same.f] at h
    have HH := Aside0.mk h
    clear h
    have HF0_4 := Aside0.mk (Kd.F_mono hs0_4 (fun k_ hk_ => (.inl hk_ : P_ k_ ∨ w.heap.size ≤ k_)))
    have HL0_4 := Aside0.mk hc0_4
    clear hs0_4 hc0_4
    have HF1_4 := Aside0.mk (Kd.F_mono hs1_4 (fun k_ hk_ => (.inl hk_ : P_ k_ ∨ w.heap.size ≤ k_)))
    have HL1_4 := Aside0.mk hc1_4
    clear hs1_4 hc1_4
    have HB := Aside0.mk (Below.refl w.heap.size w)
    have hu26 := Try.underlying26
    go_enter Try.func16, Try.ntmps16
    go_wp2_with (((with_reducible refine gate_dst (N := 2) rfl ?_); (try (refine gate_guard (by rfl) ?_; dsimp only)); refine box_event ?hg (N := 2) ?hd (cs := #[.int .i64 a0_0, .bool a0_1, .int .i64 a0_2, .string a0_3, .slice A0_4 l0_4.length c0_4]) (t := 26) ?hr ?_; (case hd => rfl); (case hg => rfl); (case hr => first | (go_simp; done) | (go_simp; rfl)); intro g1 hg w2 hbox hb); replace hg := Aside0.mk hg; replace hbox := Aside0.mk hbox; refine stop_ ?_)
    refine Stop.go ?_
    replace hg := hg.out
    replace hbox := hbox.out
    have GEg1 := Aside0.mk (by rw [hg]; exact (below_size HB.out) : w.heap.size ≤ g1)
    replace HF0_4 := Aside0.mk (Kd.F_elderB HF0_4.out g1 (Nat.le_of_eq hg.symm))
    replace HF0_4 := Aside0.mk (Kd.F_mono HF0_4.out (fun k_ hk_ => ⟨hk_.1, hk_.2⟩) : Kd.F k26 _ (fun k_ => (P_ k_ ∨ w.heap.size ≤ k_) ∧ k_ ≠ g1) _ _ _)
    replace HF1_4 := Aside0.mk (Kd.F_elderB HF1_4.out g1 (Nat.le_of_eq hg.symm))
    replace HF1_4 := Aside0.mk (Kd.F_mono HF1_4.out (fun k_ hk_ => ⟨hk_.1, hk_.2⟩) : Kd.F k26 _ (fun k_ => (P_ k_ ∨ w.heap.size ≤ k_) ∧ k_ ≠ g1) _ _ _)
    replace HF0_4 := Aside0.mk (Kd.F_below HF0_4.out hb)
    replace HF1_4 := Aside0.mk (Kd.F_below HF1_4.out hb)
    replace HB := Aside0.mk (below_step HB.out hb)
    have BKg1 := Aside0.mk hbox
    clear hg hbox hb
    obtain ⟨hz3, hz4, hz5, hz6, hz7, hf8, hf9, hf10, hf11, hf12⟩ := MB.lay5 BKg1.out
    go_wp2_with (((with_reducible refine gate_dst (N := 3) rfl ?_); (try (refine gate_guard (by rfl) ?_; dsimp only)); refine box_event ?hg (N := 3) ?hd (cs := #[.int .i64 a1_0, .bool a1_1, .int .i64 a1_2, .string a1_3, .slice A1_4 l1_4.length c1_4]) (t := 26) ?hr ?_; (case hd => rfl); (case hg => rfl); (case hr => first | (go_simp; done) | (go_simp; rfl)); intro g13 hg w14 hbox hb); replace hg := Aside0.mk hg; replace hbox := Aside0.mk hbox; refine stop_ ?_)
    refine Stop.go ?_
    replace hg := hg.out
    replace hbox := hbox.out
    have GEg13 := Aside0.mk (by rw [hg]; exact (below_size HB.out) : w.heap.size ≤ g13)
    replace HF0_4 := Aside0.mk (Kd.F_elderB HF0_4.out g13 (Nat.le_of_eq hg.symm))
    replace HF0_4 := Aside0.mk (Kd.F_mono HF0_4.out (fun k_ hk_ => ⟨hk_.1.1, hk_.1.2, hk_.2⟩) : Kd.F k26 _ (fun k_ => (P_ k_ ∨ w.heap.size ≤ k_) ∧ k_ ≠ g1 ∧ k_ ≠ g13) _ _ _)
    replace HF1_4 := Aside0.mk (Kd.F_elderB HF1_4.out g13 (Nat.le_of_eq hg.symm))
    replace HF1_4 := Aside0.mk (Kd.F_mono HF1_4.out (fun k_ hk_ => ⟨hk_.1.1, hk_.1.2, hk_.2⟩) : Kd.F k26 _ (fun k_ => (P_ k_ ∨ w.heap.size ≤ k_) ∧ k_ ≠ g1 ∧ k_ ≠ g13) _ _ _)
    have NEg1_g13 := Aside0.mk (by rw [hg]; exact Nat.ne_of_lt (blk_lt (o := .cells #[.int .i64 a0_0, .bool a0_1, .int .i64 a0_2, .string a0_3, .slice A0_4 l0_4.length c0_4] 26 (0, 0)) BKg1.out) : g1 ≠ g13)
    have NEg13_g1 := Aside0.mk (Ne.symm NEg1_g13.out)
    replace HF0_4 := Aside0.mk (Kd.F_below HF0_4.out hb)
    replace HF1_4 := Aside0.mk (Kd.F_below HF1_4.out hb)
    replace BKg1 := Aside0.mk (blk_below (o := .cells #[.int .i64 a0_0, .bool a0_1, .int .i64 a0_2, .string a0_3, .slice A0_4 l0_4.length c0_4] 26 (0, 0)) BKg1.out hb)
    replace HB := Aside0.mk (below_step HB.out hb)
    have BKg13 := Aside0.mk hbox
    clear hg hbox hb
    clear hz3 hz4 hz5 hz6 hz7 hf8 hf9 hf10 hf11 hf12
    obtain ⟨hz15, hz16, hz17, hz18, hz19, hf20, hf21, hf22, hf23, hf24⟩ := MB.lay5 BKg1.out
    obtain ⟨hz25, hz26, hz27, hz28, hz29, hf30, hf31, hf32, hf33, hf34⟩ := MB.lay5 BKg13.out
    by_cases c35 : a0_0 = a1_0
    · have H := HH.out
      rw [if_pos c35] at H
      replace HH := Aside0.mk H
      clear H
      have hk36 : (a0_0 == a1_0) = true := beq_iff_eq.mpr c35
      have hk37 : (a0_0 != a1_0) = false := bne_eq_false_iff_eq.mpr c35
      clear c35
      by_cases c38 : (a0_1 == a1_1) = true
      · have H := HH.out
        rw [if_pos c38] at H
        replace HH := Aside0.mk H
        clear H
        have hk39 : (a0_1 == a1_1) = true := c38
        try have hk40 : decide (a0_1 = a1_1) = true := by simpa using c38
        try have hk41 : (a0_1 == a1_1) = true := by simpa using c38
        clear c38
        by_cases c42 : a0_2 = a1_2
        · have H := HH.out
          rw [if_pos c42] at H
          replace HH := Aside0.mk H
          clear H
          have hk43 : (a0_2 == a1_2) = true := beq_iff_eq.mpr c42
          have hk44 : (a0_2 != a1_2) = false := bne_eq_false_iff_eq.mpr c42
          clear c42
          by_cases c45 : a0_3.toList = a1_3.toList
          · have H := HH.out
            rw [if_pos c45] at H
            replace HH := Aside0.mk H
            clear H
            have hk46 : (a0_3.toList == a1_3.toList) = true := beq_iff_eq.mpr c45
            have hk47 : (a0_3.toList != a1_3.toList) = false := bne_eq_false_iff_eq.mpr c45
            clear c45
            have H := HH.out
            replace H := Option.bind_eq_some_iff.mp H
            obtain ⟨t48, at_, H⟩ := H
            have At49 := Aside0.mk at_
            clear at_
            replace HH := Aside0.mk (show (some t48) = some r from H)
            clear H
            go_wp2_with (((with_reducible refine gate_callee (f := 18) rfl ?_); (try (refine gate_guard (by rfl) ?_; dsimp only)); refine goesL_ (some 36) rfl rfl Try.func18 (by kernel_rfl) rfl #[.slice A0_4 l0_4.length c0_4, .slice A1_4 l1_4.length c1_4] rfl (by (try simp only [List.map_toArray, List.map_cons, List.map_nil]); first | done | rfl | (simp only [List.length_drop, List.length_take]; rfl)) ?_; (with_reducible refine ((ih k1 (by omega)).2 (fun k_ => (P_ k_ ∨ w.heap.size ≤ k_) ∧ k_ ≠ g1 ∧ k_ ≠ g13) _ _ l0_4 _ _ l1_4 t48 _ (Kd.F_mono (ok := (fun k_ => (P_ k_ ∨ w.heap.size ≤ k_) ∧ k_ ≠ g1 ∧ k_ ≠ g13)) HF0_4.out (fun k_ hk_ => ⟨hk_.1, hk_.2.1, hk_.2.2⟩)) HL0_4.out (Kd.F_mono (ok := (fun k_ => (P_ k_ ∨ w.heap.size ≤ k_) ∧ k_ ≠ g1 ∧ k_ ≠ g13)) HF1_4.out (fun k_ hk_ => ⟨hk_.1, hk_.2.1, hk_.2.2⟩)) HL1_4.out At49.out).mono ?_); rintro e w50 ⟨rfl, hb⟩; refine ⟨_, rfl, ?_⟩); refine stop_ ?_)
            refine Stop.go ?_
            replace HF0_4 := Aside0.mk (Kd.F_below HF0_4.out hb)
            replace HF1_4 := Aside0.mk (Kd.F_below HF1_4.out hb)
            replace BKg1 := Aside0.mk (blk_below (o := .cells #[.int .i64 a0_0, .bool a0_1, .int .i64 a0_2, .string a0_3, .slice A0_4 l0_4.length c0_4] 26 (0, 0)) BKg1.out hb)
            replace BKg13 := Aside0.mk (blk_below (o := .cells #[.int .i64 a1_0, .bool a1_1, .int .i64 a1_2, .string a1_3, .slice A1_4 l1_4.length c1_4] 26 (0, 0)) BKg13.out hb)
            replace HB := Aside0.mk (below_step HB.out hb)
            clear hb
            clear hz15 hz16 hz17 hz18 hz19 hf20 hf21 hf22 hf23 hf24 hz25 hz26 hz27 hz28 hz29 hf30 hf31 hf32 hf33 hf34
            obtain ⟨hz51, hz52, hz53, hz54, hz55, hf56, hf57, hf58, hf59, hf60⟩ := MB.lay5 BKg1.out
            obtain ⟨hz61, hz62, hz63, hz64, hz65, hf66, hf67, hf68, hf69, hf70⟩ := MB.lay5 BKg13.out
            have H := HH.out
            obtain rfl := Option.some.inj H
            clear HH
            go_wp2
            go_ret
            exact ⟨by first | rfl | (simp; done) | (simp [*]; done), HB.out⟩
          · have H := HH.out
            rw [if_neg c45] at H
            replace HH := Aside0.mk H
            clear H
            have hk71 : (a0_3.toList == a1_3.toList) = false := beq_eq_false_iff_ne.mpr c45
            have hk72 : (a0_3.toList != a1_3.toList) = true := bne_iff_ne.mpr c45
            clear c45
            have H := HH.out
            obtain rfl := Option.some.inj H
            clear HH
            go_wp2
            go_ret
            exact ⟨by first | rfl | (simp; done) | (simp [*]; done), HB.out⟩
        · have H := HH.out
          rw [if_neg c42] at H
          replace HH := Aside0.mk H
          clear H
          have hk73 : (a0_2 == a1_2) = false := beq_eq_false_iff_ne.mpr c42
          have hk74 : (a0_2 != a1_2) = true := bne_iff_ne.mpr c42
          clear c42
          have H := HH.out
          obtain rfl := Option.some.inj H
          clear HH
          go_wp2
          go_ret
          exact ⟨by first | rfl | (simp; done) | (simp [*]; done), HB.out⟩
      · have H := HH.out
        rw [if_neg c38] at H
        replace HH := Aside0.mk H
        clear H
        have hk75 : (a0_1 == a1_1) = false := by simpa using c38
        try have hk76 : decide (a0_1 = a1_1) = false := by simpa using c38
        try have hk77 : (a0_1 == a1_1) = false := by simpa using c38
        try have hk78 : ¬ (a0_1 = a1_1) := by simpa using c38
        clear c38
        have H := HH.out
        obtain rfl := Option.some.inj H
        clear HH
        go_wp2
        go_ret
        exact ⟨by first | rfl | (simp; done) | (simp [*]; done), HB.out⟩
    · have H := HH.out
      rw [if_neg c35] at H
      replace HH := Aside0.mk H
      clear H
      have hk79 : (a0_0 == a1_0) = false := beq_eq_false_iff_ne.mpr c35
      have hk80 : (a0_0 != a1_0) = true := bne_iff_ne.mpr c35
      clear c35
      have H := HH.out
      obtain rfl := Option.some.inj H
      clear HH
      go_wp2
      go_ret
      exact ⟨by first | rfl | (simp; done) | (simp [*]; done), HB.out⟩
  · intro P_ A0 c0 l0 A1 c1 l1 r w hs0 hc0 hs1 hc1 h
    cases k with
    | zero => exact absurd h (by simp [toponymref15_SameAll.f])
    | succ k1 =>
    simp only [toponymref15_SameAll.f] at h
    have HH := Aside0.mk h
    clear h
    have HF0 := Aside0.mk (Kd.F_mono hs0 (fun k_ hk_ => (.inl hk_ : P_ k_ ∨ w.heap.size ≤ k_)))
    have HL0 := Aside0.mk hc0
    clear hs0 hc0
    have HF1 := Aside0.mk (Kd.F_mono hs1 (fun k_ hk_ => (.inl hk_ : P_ k_ ∨ w.heap.size ≤ k_)))
    have HL1 := Aside0.mk hc1
    clear hs1 hc1
    have HB := Aside0.mk (Below.refl w.heap.size w)
    have hu26 := Try.underlying26
    go_enter Try.func18, Try.ntmps18
    by_cases c1 : (l0.length : Int) = (l1.length : Int)
    · have H := HH.out
      rw [if_pos c1] at H
      replace HH := Aside0.mk H
      clear H
      have hk2 : ((l0.length : Int) == (l1.length : Int)) = true := beq_iff_eq.mpr c1
      have hk3 : ((l0.length : Int) != (l1.length : Int)) = false := bne_eq_false_iff_eq.mpr c1
      have hk4 : (l0.length == l1.length) = true := by first | simpa using c1 | (simp at c1 ⊢; omega)
      clear c1
      go_wp2
      go_loopg [5] k1 (fun kq u5 w' => ∃ (x5 : Int), u5 = .int .i64 x5 ∧ Aside0 ((toponymref15_SameAll.l0 kq x5 l0 l1) = some r) ∧ Aside0 (kq ≤ k1) ∧ Aside0 (Kd.F k26 w' (fun k_ => (P_ k_ ∨ w.heap.size ≤ k_)) A0 l0.length l0) ∧ Aside0 (Kd.F k26 w' (fun k_ => (P_ k_ ∨ w.heap.size ≤ k_)) A1 l1.length l1) ∧ Aside0 (Below w.heap.size w w'))
      case atStart => exact ⟨0, (by first | rfl | (simp; done) | (simp [*]; done)), HH, ⟨Nat.le_refl _⟩, ⟨(Kd.F_mono (ok := (fun k_ => (P_ k_ ∨ w.heap.size ≤ k_))) HF0.out (fun k_ hk_ => hk_))⟩, ⟨(Kd.F_mono (ok := (fun k_ => (P_ k_ ∨ w.heap.size ≤ k_))) HF1.out (fun k_ hk_ => hk_))⟩, ⟨HB.out⟩⟩
      case round =>
        clear hk2
        clear hk3
        clear hk4
        clear HH
        clear HF0 HF1 HB
        obtain ⟨x5, rfl, HA, HK0, HF0, HF1, HB⟩ := hrel
        obtain ⟨w7, rfl⟩ : ∃ wo_ : World, wo_ = wr := ⟨_, rfl⟩
        cases gk with
        | zero => exact absurd HA.out (by simp [toponymref15_SameAll.l0])
        | succ k6 =>
          have H := HA.out
          clear HA
          simp only [toponymref15_SameAll.l0] at H
          have HH := Aside0.mk H
          clear H
          by_cases c8 : x5 < (l0.length : Int)
          · have H := HH.out
            rw [if_pos c8] at H
            replace HH := Aside0.mk H
            clear H
            have hk9 : (x5 < (l0.length : Int)) = True := eq_true c8
            have hk10 : decide (x5 < (l0.length : Int)) = true := decide_eq_true c8
            clear c8
            by_cases c11 : 0 ≤ x5
            · have H := HH.out
              rw [if_pos c11] at H
              replace HH := Aside0.mk H
              clear H
              have hk12 : decide (0 ≤ x5) = true := decide_eq_true c11
              clear c11
              have p13 : 0 ≤ (x5 : Int) := of_decide_eq_true (by first | (with_reducible assumption) | assumption)
              have q13 : x5 < (l0.length : Int) := of_decide_eq_true (by first | (with_reducible assumption) | assumption)
              obtain ⟨ad13, A13_4, c13_4, e13, hx13_0, hx13_1, hx13_2, hx13_3, hx13_4, hl13_4, hi13_4⟩ := atF_T26 HF0.out x5 p13 q13
              cases e13
              have HF13_4 := Aside0.mk hi13_4
              have HL13_4 := Aside0.mk hl13_4
              clear hi13_4 hl13_4
              replace p13 := eq_true p13
              replace q13 := eq_true q13
              by_cases c14 : x5 < (l1.length : Int)
              · have H := HH.out
                rw [if_pos c14] at H
                replace HH := Aside0.mk H
                clear H
                have hk15 : (x5 < (l1.length : Int)) = True := eq_true c14
                have hk16 : decide (x5 < (l1.length : Int)) = true := decide_eq_true c14
                clear c14
                have p17 : 0 ≤ (x5 : Int) := of_decide_eq_true (by first | (with_reducible assumption) | assumption)
                have q17 : x5 < (l1.length : Int) := of_decide_eq_true (by first | (with_reducible assumption) | assumption)
                obtain ⟨ad17, A17_4, c17_4, e17, hx17_0, hx17_1, hx17_2, hx17_3, hx17_4, hl17_4, hi17_4⟩ := atF_T26 HF1.out x5 p17 q17
                cases e17
                have HF17_4 := Aside0.mk hi17_4
                have HL17_4 := Aside0.mk hl17_4
                clear hi17_4 hl17_4
                replace p17 := eq_true p17
                replace q17 := eq_true q17
                go_wp2
                have hwr_ : ∀ n_ : Int, IntKind.i64.wrap n_ = wrap64 n_ := fun n_ => IntWalk.i64_left n_
                go_still_tail 8, (by kernel_rfl)
                clear hwr_
                change wpList _ _ _ _ _ w7.drew
                obtain ⟨w18, hw_⟩ : ∃ w_ : World, w_ = w7.drew := ⟨_, rfl⟩
                rw [← hw_]
                have hb : Below w7.heap.size w7 w18 := by rw [hw_]; exact below_drew1 (Below.refl _ _)
                clear hw_
                replace HF0 := Aside0.mk (Kd.F_below HF0.out hb)
                replace HF1 := Aside0.mk (Kd.F_below HF1.out hb)
                replace HF13_4 := Aside0.mk (Kd.F_below HF13_4.out hb)
                replace HF17_4 := Aside0.mk (Kd.F_below HF17_4.out hb)
                replace HB := Aside0.mk (below_step HB.out hb)
                clear hb
                clear hx13_0 hx13_1 hx13_2 hx13_3 hx13_4 p13 q13 hx17_0 hx17_1 hx17_2 hx17_3 hx17_4 p17 q17
                have H := HH.out
                replace H := Option.bind_eq_some_iff.mp H
                obtain ⟨t19, at_, H⟩ := H
                have At20 := Aside0.mk at_
                clear at_
                replace HH := Aside0.mk (show (if t19 = true then ((toponymref15_SameAll.l0 k6 (wrap64 (x5 + 1)) l0 l1)) else (some false)) = some r from H)
                clear H
                go_wp2_with (((with_reducible refine gate_callee (f := 16) rfl ?_); (try (refine gate_guard (by rfl) ?_; dsimp only)); refine goesL_ (some 25) rfl rfl Try.func16 (by kernel_rfl) rfl #[.agg #[.int .i64 ((rd_T26 l0 x5).f0), .bool ((rd_T26 l0 x5).f1), .int .i64 ((rd_T26 l0 x5).f2), .string ((rd_T26 l0 x5).f3), .slice A13_4 ((rd_T26 l0 x5).f4).length c13_4], .agg #[.int .i64 ((rd_T26 l1 x5).f0), .bool ((rd_T26 l1 x5).f1), .int .i64 ((rd_T26 l1 x5).f2), .string ((rd_T26 l1 x5).f3), .slice A17_4 ((rd_T26 l1 x5).f4).length c17_4]] rfl (by (try simp only [List.map_toArray, List.map_cons, List.map_nil]); first | done | rfl | (simp only [List.length_drop, List.length_take]; rfl)) ?_; (with_reducible refine ((ih k6 (by have := HK0.out; omega)).1 (fun k_ => (P_ k_ ∨ w.heap.size ≤ k_)) ((rd_T26 l0 x5).f0) ((rd_T26 l0 x5).f1) ((rd_T26 l0 x5).f2) ((rd_T26 l0 x5).f3) _ _ ((rd_T26 l0 x5).f4) ((rd_T26 l1 x5).f0) ((rd_T26 l1 x5).f1) ((rd_T26 l1 x5).f2) ((rd_T26 l1 x5).f3) _ _ ((rd_T26 l1 x5).f4) t19 _ (Kd.F_mono (ok := (fun k_ => (P_ k_ ∨ w.heap.size ≤ k_))) HF13_4.out (fun k_ hk_ => hk_)) HL13_4.out (Kd.F_mono (ok := (fun k_ => (P_ k_ ∨ w.heap.size ≤ k_))) HF17_4.out (fun k_ hk_ => hk_)) HL17_4.out At20.out).mono ?_); rintro e w21 ⟨rfl, hb⟩; refine ⟨_, rfl, ?_⟩); refine stop_ ?_)
                refine Stop.go ?_
                replace HF0 := Aside0.mk (Kd.F_below HF0.out hb)
                replace HF1 := Aside0.mk (Kd.F_below HF1.out hb)
                replace HF13_4 := Aside0.mk (Kd.F_below HF13_4.out hb)
                replace HF17_4 := Aside0.mk (Kd.F_below HF17_4.out hb)
                replace HB := Aside0.mk (below_step HB.out hb)
                clear hb
                by_cases c22 : t19 = true
                · have H := HH.out
                  rw [if_pos c22] at H
                  replace HH := Aside0.mk H
                  clear H
                  subst c22
                  go_wp2
                  go_roundg k6
                  case measure => have := HK0.out; omega
                  case rel => exact ⟨wrap64 (x5 + 1), (by first | rfl | (simp; done) | (simp [*]; done)), HH, ⟨by have := HK0.out; omega⟩, ⟨(Kd.F_mono (ok := (fun k_ => (P_ k_ ∨ w.heap.size ≤ k_))) HF0.out (fun k_ hk_ => hk_))⟩, ⟨(Kd.F_mono (ok := (fun k_ => (P_ k_ ∨ w.heap.size ≤ k_))) HF1.out (fun k_ hk_ => hk_))⟩, ⟨HB.out⟩⟩
                · have H := HH.out
                  rw [if_neg c22] at H
                  replace HH := Aside0.mk H
                  clear H
                  replace c22 := Bool.eq_false_iff.mpr c22
                  subst c22
                  have H := HH.out
                  obtain rfl := Option.some.inj H
                  clear HH
                  go_wp2
                  go_ret
                  exact ⟨by first | rfl | (simp; done) | (simp [*]; done), HB.out⟩
              · exact absurd HH.out (by rw [if_neg c14]; simp)
            · exact absurd HH.out (by rw [if_neg c11]; simp)
          · have H := HH.out
            rw [if_neg c8] at H
            replace HH := Aside0.mk H
            clear H
            have hk26 : (x5 < (l0.length : Int)) = False := eq_false c8
            have hk27 : decide (x5 < (l0.length : Int)) = false := decide_eq_false c8
            clear c8
            have H := HH.out
            obtain rfl := Option.some.inj H
            clear HH
            go_wp2
            go_ret
            exact ⟨by first | rfl | (simp; done) | (simp [*]; done), HB.out⟩
    · have H := HH.out
      rw [if_neg c1] at H
      replace HH := Aside0.mk H
      clear H
      have hk28 : ((l0.length : Int) == (l1.length : Int)) = false := beq_eq_false_iff_ne.mpr c1
      have hk29 : ((l0.length : Int) != (l1.length : Int)) = true := bne_iff_ne.mpr c1
      have hk30 : (l0.length == l1.length) = false := by first | simpa using c1 | (simp at c1 ⊢; omega)
      clear c1
      have H := HH.out
      obtain rfl := Option.some.inj H
      clear HH
      go_wp2
      go_ret
      exact ⟨by first | rfl | (simp; done) | (simp [*]; done), HB.out⟩
theorem toponymref15_Same.calls (k : Nat) : ∀ (P_ : Nat → Prop) (a0_0 : Int) (a0_1 : Bool) (a0_2 : Int) (a0_3 : ByteArray) (A0_4 : Option Addr) (c0_4 : Nat) (l0_4 : List (S26)) (a1_0 : Int) (a1_1 : Bool) (a1_2 : Int) (a1_3 : ByteArray) (A1_4 : Option Addr) (c1_4 : Nat) (l1_4 : List (S26)) (r : Bool) (w : World) (hs0_4 : Kd.F k26 w P_ A0_4 l0_4.length l0_4) (hc0_4 : l0_4.length ≤ c0_4) (hs1_4 : Kd.F k26 w P_ A1_4 l1_4.length l1_4) (hc1_4 : l1_4.length ≤ c1_4) (h : toponymref15_Same.f k a0_0 a0_1 a0_2 a0_3 l0_4 a1_0 a1_1 a1_2 a1_3 l1_4 = some r),
    Calls Try.prog 16 #[.agg #[.int .i64 a0_0, .bool a0_1, .int .i64 a0_2, .string a0_3, .slice A0_4 l0_4.length c0_4], .agg #[.int .i64 a1_0, .bool a1_1, .int .i64 a1_2, .string a1_3, .slice A1_4 l1_4.length c1_4]] w (fun e w' => e = .returned (.bool r) ∧ Below w.heap.size w w') := (toponymref15_Same.group k).1
theorem toponymref15_SameAll.calls (k : Nat) : ∀ (P_ : Nat → Prop) (A0 : Option Addr) (c0 : Nat) (l0 : List (S26)) (A1 : Option Addr) (c1 : Nat) (l1 : List (S26)) (r : Bool) (w : World) (hs0 : Kd.F k26 w P_ A0 l0.length l0) (hc0 : l0.length ≤ c0) (hs1 : Kd.F k26 w P_ A1 l1.length l1) (hc1 : l1.length ≤ c1) (h : toponymref15_SameAll.f k l0 l1 = some r),
    Calls Try.prog 18 #[.slice A0 l0.length c0, .slice A1 l1.length c1] w (fun e w' => e = .returned (.bool r) ∧ Below w.heap.size w w') := (toponymref15_Same.group k).2

end Go.Proofs.Ythfonbnbffloaaa.GA
