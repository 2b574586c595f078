-- written by wip/gen.py, a program of this session
import Derived.Test.YtliackbiljhioaaGA0
import Derived.Test.YtliackbiljhioaaGAF32
namespace Go.Proofs.Ytliackbiljhioaa.GA
open Go.RowKit Go.Proofs.Ytliackbiljhioaa Go.Proofs.Ytliackbiljhioaa.MW Go.Proofs.YtliackbiljhioaaW.PrintWords Go.Proofs.YtliackbiljhioaaW.PrintLast Go.Proofs.YtliackbiljhioaaW.PrintMore
attribute [local go_sem] max2_int min2_int max_two min_two
set_option linter.unusedVariables false
set_option linter.unusedSimpArgs false

/-! ### toponymref16_Group: function 11 -/
def toponymref16_Group.f (a0 : Int) (a1 : Int) (l2 : List (S28)) : Option (Int × Bool × Int × ByteArray × (List (S28)) × Int) := (toponymref16_sort.f a0 a1).bind fun bt13 => (if bt13.2.2.2.2.2 = 0 then (if ([] : List (S28)).length + l2.length < 2199023255552 then ((some (([] : List (S28)) ++ l2 : List (S28))).bind fun y123 => (some (bt13.1, true, bt13.2.2.1, bt13.2.2.2.1, y123, bt13.2.2.2.2.2))) else (none)) else (some (bt13.1, bt13.2.1, bt13.2.2.1, bt13.2.2.2.1, bt13.2.2.2.2.1, bt13.2.2.2.2.2)))
set_option maxHeartbeats 8000000 in
set_option maxRecDepth 100000 in
theorem toponymref16_Group.calls (P_ : Nat → Prop) (a0 : Int) (a1 : Int) (A2 : Option Addr) (c2 : Nat) (l2 : List (S28)) (r1 : Int) (r2 : Bool) (r3 : Int) (r4 : ByteArray) (r5 : List (S28)) (r6 : Int) (w : World) (hs2 : Kd.F k28 w P_ A2 l2.length l2) (hc2 : l2.length ≤ c2) (h : toponymref16_Group.f a0 a1 l2 = some (r1, r2, r3, r4, r5, r6)) :
    Calls Try.prog 11 #[.int .i64 a0, .int .i64 a1, .slice A2 l2.length c2] w (fun e w' => ∃ (A4_ : Option Addr) (c4_ : Nat), e = .returned (.tuple #[.agg #[.int .i64 r1, .bool r2, .int .i64 r3, .string r4, .slice A4_ r5.length c4_], .int .i64 r6]) ∧ r5.length ≤ c4_ ∧ Kd.F k28 w' (fun k_ => P_ k_ ∨ w.heap.size ≤ k_) A4_ r5.length r5 ∧ Below w.heap.size w w') := by
  have HH := Aside0.mk (show ((toponymref16_sort.f a0 a1).bind fun bt13 => (if bt13.2.2.2.2.2 = 0 then (if ([] : List (S28)).length + l2.length < 2199023255552 then ((some (([] : List (S28)) ++ l2 : List (S28))).bind fun y123 => (some (bt13.1, true, bt13.2.2.1, bt13.2.2.2.1, y123, bt13.2.2.2.2.2))) else (none)) else (some (bt13.1, bt13.2.1, bt13.2.2.1, bt13.2.2.2.1, bt13.2.2.2.2.1, bt13.2.2.2.2.2)))) = some (r1, r2, r3, r4, r5, r6) from h)
  clear h
  have HF2 := Aside0.mk (Kd.F_mono hs2 (fun k_ hk_ => (.inl hk_ : P_ k_ ∨ w.heap.size ≤ k_)))
  have HL2 := Aside0.mk hc2
  clear hs2 hc2
  have HB := Aside0.mk (Below.refl w.heap.size w)
  have hu28 := Try.underlying28
  go_enter Try.func11, Try.ntmps11
  go_wp2_with (((with_reducible refine gate_dst (N := 6) rfl ?_); (try (refine gate_guard (by rfl) ?_; dsimp only)); refine box_event ?hg (N := 6) ?hd (cs := #[.int .i64 0, .bool false, .int .i64 0, .string (⟨#[]⟩ : ByteArray), .slice none 0 0]) (t := 28) ?hr ?_; (case hd => rfl); (case hg => rfl); (case hr => first | (go_simp; done) | (go_simp; rfl)); intro g1 hg w2 hbox hb); replace hg := Aside0.mk hg; replace hbox := Aside0.mk hbox; refine stop_ ?_)
  refine Stop.go ?_
  replace hg := hg.out
  replace hbox := hbox.out
  have GEg1 := Aside0.mk (by rw [hg]; exact (below_size HB.out) : w.heap.size ≤ g1)
  replace HF2 := Aside0.mk (Kd.F_elderB HF2.out g1 (Nat.le_of_eq hg.symm))
  replace HF2 := Aside0.mk (Kd.F_mono HF2.out (fun k_ hk_ => ⟨hk_.1, hk_.2⟩) : Kd.F k28 _ (fun k_ => (P_ k_ ∨ w.heap.size ≤ k_) ∧ k_ ≠ g1) _ _ _)
  replace HF2 := Aside0.mk (Kd.F_below HF2.out hb)
  replace HB := Aside0.mk (below_step HB.out hb)
  have BKg1 := Aside0.mk hbox
  clear hg hbox hb
  have hz3 : w2.cell? ⟨g1, 0, none⟩ = some (.int .i64 0) := (blk_cell BKg1.out 0).trans rfl
  have hz4 : w2.cell? ⟨g1, 1, none⟩ = some (.bool false) := (blk_cell BKg1.out 1).trans rfl
  have hz5 : w2.cell? ⟨g1, 2, none⟩ = some (.int .i64 0) := (blk_cell BKg1.out 2).trans rfl
  have hz6 : w2.cell? ⟨g1, 3, none⟩ = some (.string (⟨#[]⟩ : ByteArray)) := (blk_cell BKg1.out 3).trans rfl
  have hz7 : w2.cell? ⟨g1, 4, none⟩ = some (.slice none 0 0) := (blk_cell BKg1.out 4).trans rfl
  have hf8 := blk_frozen BKg1.out 0
  have hf9 := blk_frozen BKg1.out 1
  have hf10 := blk_frozen BKg1.out 2
  have hf11 := blk_frozen BKg1.out 3
  have hf12 := blk_frozen BKg1.out 4
  have H := HH.out
  replace H := Option.bind_eq_some_iff.mp H
  obtain ⟨⟨t13, t14, t15, t16, t17, t18⟩, at_, H⟩ := H
  have At19 := Aside0.mk at_
  clear at_
  replace HH := Aside0.mk (show (if t18 = 0 then (if ([] : List (S28)).length + l2.length < 2199023255552 then ((some (([] : List (S28)) ++ l2 : List (S28))).bind fun y123 => (some (t13, true, t15, t16, y123, t18))) else (none)) else (some (t13, t14, t15, t16, t17, t18))) = some (r1, r2, r3, r4, r5, r6) from H)
  clear H
  go_wp2_with (((with_reducible refine gate_callee (f := 32) rfl ?_); (try (refine gate_guard (by rfl) ?_; dsimp only)); refine goesL_ (some 13) rfl rfl Try.func32 (by kernel_rfl) rfl #[.int .i64 a0, .int .i64 a1] rfl (by (try simp only [List.map_toArray, List.map_cons, List.map_nil]); first | done | rfl | (simp only [List.length_drop, List.length_take]; rfl)) ?_; (with_reducible refine (toponymref16_sort.calls  a0 a1 t13 t14 t15 t16 t17 t18 _  At19.out).mono ?_); rintro e w20 ⟨v21, rfl, hn21, hb⟩; refine ⟨_, rfl, ?_⟩); refine stop_ ?_)
  refine Stop.go ?_
  obtain ⟨A21, cp21, he_⟩ := Kd.N_slice hn21
  subst he_
  have HL21 := Aside0.mk (Kd.N_reads' hn21).2.1
  have HF21 := Aside0.mk (Kd.F_mono (Kd.N_F hn21) (fun k_ h_ => ⟨.inr (Nat.le_trans (below_size HB.out) h_), Kd.freshB (o := .cells #[.int .i64 0, .bool false, .int .i64 0, .string (⟨#[]⟩ : ByteArray), .slice none 0 0] 28 (0, 0)) BKg1.out k_ h_⟩) : Kd.F k28 _ (fun k_ => (P_ k_ ∨ w.heap.size ≤ k_) ∧ k_ ≠ g1) _ _ _)
  clear hn21
  replace HF2 := Aside0.mk (Kd.F_below HF2.out hb)
  replace BKg1 := Aside0.mk (blk_below (o := .cells #[.int .i64 0, .bool false, .int .i64 0, .string (⟨#[]⟩ : ByteArray), .slice none 0 0] 28 (0, 0)) BKg1.out hb)
  replace HB := Aside0.mk (below_step HB.out hb)
  clear hb
  clear hz3 hz4 hz5 hz6 hz7 hf8 hf9 hf10 hf11 hf12
  have hz22 : w20.cell? ⟨g1, 0, none⟩ = some (.int .i64 0) := (blk_cell BKg1.out 0).trans rfl
  have hz23 : w20.cell? ⟨g1, 1, none⟩ = some (.bool false) := (blk_cell BKg1.out 1).trans rfl
  have hz24 : w20.cell? ⟨g1, 2, none⟩ = some (.int .i64 0) := (blk_cell BKg1.out 2).trans rfl
  have hz25 : w20.cell? ⟨g1, 3, none⟩ = some (.string (⟨#[]⟩ : ByteArray)) := (blk_cell BKg1.out 3).trans rfl
  have hz26 : w20.cell? ⟨g1, 4, none⟩ = some (.slice none 0 0) := (blk_cell BKg1.out 4).trans rfl
  have hf27 := blk_frozen BKg1.out 0
  have hf28 := blk_frozen BKg1.out 1
  have hf29 := blk_frozen BKg1.out 2
  have hf30 := blk_frozen BKg1.out 3
  have hf31 := blk_frozen BKg1.out 4
  go_wp2_with (((with_reducible refine gate_dst (N := 8) rfl ?_); (try (refine gate_guard (by rfl) ?_; dsimp only)); refine box_event ?hg (N := 8) ?hd (cs := #[.int .i64 0, .bool false, .int .i64 0, .string (⟨#[]⟩ : ByteArray), .slice none 0 0]) (t := 28) ?hr ?_; (case hd => rfl); (case hg => rfl); (case hr => first | (go_simp; done) | (go_simp; rfl)); intro g32 hg w33 hbox hb); replace hg := Aside0.mk hg; replace hbox := Aside0.mk hbox; refine stop_ ?_)
  refine Stop.go ?_
  replace hg := hg.out
  replace hbox := hbox.out
  have GEg32 := Aside0.mk (by rw [hg]; exact (below_size HB.out) : w.heap.size ≤ g32)
  replace HF2 := Aside0.mk (Kd.F_elderB HF2.out g32 (Nat.le_of_eq hg.symm))
  replace HF2 := Aside0.mk (Kd.F_mono HF2.out (fun k_ hk_ => ⟨hk_.1.1, hk_.1.2, hk_.2⟩) : Kd.F k28 _ (fun k_ => (P_ k_ ∨ w.heap.size ≤ k_) ∧ k_ ≠ g1 ∧ k_ ≠ g32) _ _ _)
  replace HF21 := Aside0.mk (Kd.F_elderB HF21.out g32 (Nat.le_of_eq hg.symm))
  replace HF21 := Aside0.mk (Kd.F_mono HF21.out (fun k_ hk_ => ⟨hk_.1.1, hk_.1.2, hk_.2⟩) : Kd.F k28 _ (fun k_ => (P_ k_ ∨ w.heap.size ≤ k_) ∧ k_ ≠ g1 ∧ k_ ≠ g32) _ _ _)
  have NEg1_g32 := Aside0.mk (by rw [hg]; exact Nat.ne_of_lt (blk_lt (o := .cells #[.int .i64 0, .bool false, .int .i64 0, .string (⟨#[]⟩ : ByteArray), .slice none 0 0] 28 (0, 0)) BKg1.out) : g1 ≠ g32)
  have NEg32_g1 := Aside0.mk (Ne.symm NEg1_g32.out)
  replace HF2 := Aside0.mk (Kd.F_below HF2.out hb)
  replace HF21 := Aside0.mk (Kd.F_below HF21.out hb)
  replace BKg1 := Aside0.mk (blk_below (o := .cells #[.int .i64 0, .bool false, .int .i64 0, .string (⟨#[]⟩ : ByteArray), .slice none 0 0] 28 (0, 0)) BKg1.out hb)
  replace HB := Aside0.mk (below_step HB.out hb)
  have BKg32 := Aside0.mk hbox
  clear hg hbox hb
  clear hz22 hz23 hz24 hz25 hz26 hf27 hf28 hf29 hf30 hf31
  have hz34 : w33.cell? ⟨g1, 0, none⟩ = some (.int .i64 0) := (blk_cell BKg1.out 0).trans rfl
  have hz35 : w33.cell? ⟨g1, 1, none⟩ = some (.bool false) := (blk_cell BKg1.out 1).trans rfl
  have hz36 : w33.cell? ⟨g1, 2, none⟩ = some (.int .i64 0) := (blk_cell BKg1.out 2).trans rfl
  have hz37 : w33.cell? ⟨g1, 3, none⟩ = some (.string (⟨#[]⟩ : ByteArray)) := (blk_cell BKg1.out 3).trans rfl
  have hz38 : w33.cell? ⟨g1, 4, none⟩ = some (.slice none 0 0) := (blk_cell BKg1.out 4).trans rfl
  have hf39 := blk_frozen BKg1.out 0
  have hf40 := blk_frozen BKg1.out 1
  have hf41 := blk_frozen BKg1.out 2
  have hf42 := blk_frozen BKg1.out 3
  have hf43 := blk_frozen BKg1.out 4
  have hz44 : w33.cell? ⟨g32, 0, none⟩ = some (.int .i64 0) := (blk_cell BKg32.out 0).trans rfl
  have hz45 : w33.cell? ⟨g32, 1, none⟩ = some (.bool false) := (blk_cell BKg32.out 1).trans rfl
  have hz46 : w33.cell? ⟨g32, 2, none⟩ = some (.int .i64 0) := (blk_cell BKg32.out 2).trans rfl
  have hz47 : w33.cell? ⟨g32, 3, none⟩ = some (.string (⟨#[]⟩ : ByteArray)) := (blk_cell BKg32.out 3).trans rfl
  have hz48 : w33.cell? ⟨g32, 4, none⟩ = some (.slice none 0 0) := (blk_cell BKg32.out 4).trans rfl
  have hf49 := blk_frozen BKg32.out 0
  have hf50 := blk_frozen BKg32.out 1
  have hf51 := blk_frozen BKg32.out 2
  have hf52 := blk_frozen BKg32.out 3
  have hf53 := blk_frozen BKg32.out 4
  go_wp2_with (((with_reducible refine gate_store (t := 28) (p := 8) rfl ?_); (try (refine gate_guard (by rfl) ?_; dsimp only)); refine MW.ev_store #[.int .i64 t13, .bool t14, .int .i64 t15, .string t16, .slice A21 t17.length cp21] rfl rfl rfl rfl (cs := #[.int .i64 0, .bool false, .int .i64 0, .string (⟨#[]⟩ : ByteArray), .slice none 0 0]) (ty := 28) BKg32.out [.int .i64 t13, .bool t14, .int .i64 t15, .string t16, .slice A21 t17.length cp21] rfl (by kernel_rfl) (by simp) (by simp [Value.oneCell']) rfl ?_; intro w54 hbk hg); replace hbk := Aside0.mk hbk; refine stop_ ?_)
  refine Stop.go ?_
  replace hbk := hbk.out
  replace HF2 := Aside0.mk (Kd.F_grown (ok := (fun k_ => (P_ k_ ∨ w.heap.size ≤ k_) ∧ k_ ≠ g1 ∧ k_ ≠ g32)) HF2.out hg (fun k_ hk_ he_ => hk_.2.2 (Option.some.inj he_)))
  replace HF21 := Aside0.mk (Kd.F_grown (ok := (fun k_ => (P_ k_ ∨ w.heap.size ≤ k_) ∧ k_ ≠ g1 ∧ k_ ≠ g32)) HF21.out hg (fun k_ hk_ he_ => hk_.2.2 (Option.some.inj he_)))
  replace BKg1 := Aside0.mk (blk_grown (o := .cells #[.int .i64 0, .bool false, .int .i64 0, .string (⟨#[]⟩ : ByteArray), .slice none 0 0] 28 (0, 0)) BKg1.out hg (fun he_ => NEg1_g32.out (Option.some.inj he_)))
  replace HB := Aside0.mk (Below.grown HB.out hg (below_size HB.out) (fun k_ hk_ => by injection hk_ with hk_; rw [← hk_]; exact GEg32.out))
  replace BKg32 := Aside0.mk hbk
  clear hg hbk
  clear hz34 hz35 hz36 hz37 hz38 hf39 hf40 hf41 hf42 hf43 hz44 hz45 hz46 hz47 hz48 hf49 hf50 hf51 hf52 hf53
  have hz55 : w54.cell? ⟨g1, 0, none⟩ = some (.int .i64 0) := (blk_cell BKg1.out 0).trans rfl
  have hz56 : w54.cell? ⟨g1, 1, none⟩ = some (.bool false) := (blk_cell BKg1.out 1).trans rfl
  have hz57 : w54.cell? ⟨g1, 2, none⟩ = some (.int .i64 0) := (blk_cell BKg1.out 2).trans rfl
  have hz58 : w54.cell? ⟨g1, 3, none⟩ = some (.string (⟨#[]⟩ : ByteArray)) := (blk_cell BKg1.out 3).trans rfl
  have hz59 : w54.cell? ⟨g1, 4, none⟩ = some (.slice none 0 0) := (blk_cell BKg1.out 4).trans rfl
  have hf60 := blk_frozen BKg1.out 0
  have hf61 := blk_frozen BKg1.out 1
  have hf62 := blk_frozen BKg1.out 2
  have hf63 := blk_frozen BKg1.out 3
  have hf64 := blk_frozen BKg1.out 4
  have hz65 : w54.cell? ⟨g32, 0, none⟩ = some (.int .i64 t13) := (blk_cell BKg32.out 0).trans rfl
  have hz66 : w54.cell? ⟨g32, 1, none⟩ = some (.bool t14) := (blk_cell BKg32.out 1).trans rfl
  have hz67 : w54.cell? ⟨g32, 2, none⟩ = some (.int .i64 t15) := (blk_cell BKg32.out 2).trans rfl
  have hz68 : w54.cell? ⟨g32, 3, none⟩ = some (.string t16) := (blk_cell BKg32.out 3).trans rfl
  have hz69 : w54.cell? ⟨g32, 4, none⟩ = some (.slice A21 t17.length cp21) := (blk_cell BKg32.out 4).trans rfl
  have hf70 := blk_frozen BKg32.out 0
  have hf71 := blk_frozen BKg32.out 1
  have hf72 := blk_frozen BKg32.out 2
  have hf73 := blk_frozen BKg32.out 3
  have hf74 := blk_frozen BKg32.out 4
  by_cases c75 : t18 = 0
  · have H := HH.out
    rw [if_pos c75] at H
    replace HH := Aside0.mk H
    clear H
    have hk76 : (t18 == 0) = true := beq_iff_eq.mpr c75
    have hk77 : (t18 != 0) = false := bne_eq_false_iff_eq.mpr c75
    clear c75
    go_wp2_with (((with_reducible refine gate_store (t := 4) (p := 18) rfl ?_); (try (refine gate_guard (by rfl) ?_; dsimp only)); refine MW.ev_store #[.int .i64 t13, .bool true, .int .i64 t15, .string t16, .slice A21 t17.length cp21] rfl rfl rfl rfl (cs := #[.int .i64 t13, .bool t14, .int .i64 t15, .string t16, .slice A21 t17.length cp21]) (ty := 28) BKg32.out [.bool true] rfl (by kernel_rfl) (by simp) (by simp [Value.oneCell']) rfl ?_; intro w78 hbk hg); replace hbk := Aside0.mk hbk; refine stop_ ?_)
    refine Stop.go ?_
    replace hbk := hbk.out
    replace HF2 := Aside0.mk (Kd.F_grown (ok := (fun k_ => (P_ k_ ∨ w.heap.size ≤ k_) ∧ k_ ≠ g1 ∧ k_ ≠ g32)) HF2.out hg (fun k_ hk_ he_ => hk_.2.2 (Option.some.inj he_)))
    replace HF21 := Aside0.mk (Kd.F_grown (ok := (fun k_ => (P_ k_ ∨ w.heap.size ≤ k_) ∧ k_ ≠ g1 ∧ k_ ≠ g32)) HF21.out hg (fun k_ hk_ he_ => hk_.2.2 (Option.some.inj he_)))
    replace BKg1 := Aside0.mk (blk_grown (o := .cells #[.int .i64 0, .bool false, .int .i64 0, .string (⟨#[]⟩ : ByteArray), .slice none 0 0] 28 (0, 0)) BKg1.out hg (fun he_ => NEg1_g32.out (Option.some.inj he_)))
    replace HB := Aside0.mk (Below.grown HB.out hg (below_size HB.out) (fun k_ hk_ => by injection hk_ with hk_; rw [← hk_]; exact GEg32.out))
    replace BKg32 := Aside0.mk hbk
    clear hg hbk
    clear hz55 hz56 hz57 hz58 hz59 hf60 hf61 hf62 hf63 hf64 hz65 hz66 hz67 hz68 hz69 hf70 hf71 hf72 hf73 hf74
    have hz79 : w78.cell? ⟨g1, 0, none⟩ = some (.int .i64 0) := (blk_cell BKg1.out 0).trans rfl
    have hz80 : w78.cell? ⟨g1, 1, none⟩ = some (.bool false) := (blk_cell BKg1.out 1).trans rfl
    have hz81 : w78.cell? ⟨g1, 2, none⟩ = some (.int .i64 0) := (blk_cell BKg1.out 2).trans rfl
    have hz82 : w78.cell? ⟨g1, 3, none⟩ = some (.string (⟨#[]⟩ : ByteArray)) := (blk_cell BKg1.out 3).trans rfl
    have hz83 : w78.cell? ⟨g1, 4, none⟩ = some (.slice none 0 0) := (blk_cell BKg1.out 4).trans rfl
    have hf84 := blk_frozen BKg1.out 0
    have hf85 := blk_frozen BKg1.out 1
    have hf86 := blk_frozen BKg1.out 2
    have hf87 := blk_frozen BKg1.out 3
    have hf88 := blk_frozen BKg1.out 4
    have hz89 : w78.cell? ⟨g32, 0, none⟩ = some (.int .i64 t13) := (blk_cell BKg32.out 0).trans rfl
    have hz90 : w78.cell? ⟨g32, 1, none⟩ = some (.bool true) := (blk_cell BKg32.out 1).trans rfl
    have hz91 : w78.cell? ⟨g32, 2, none⟩ = some (.int .i64 t15) := (blk_cell BKg32.out 2).trans rfl
    have hz92 : w78.cell? ⟨g32, 3, none⟩ = some (.string t16) := (blk_cell BKg32.out 3).trans rfl
    have hz93 : w78.cell? ⟨g32, 4, none⟩ = some (.slice A21 t17.length cp21) := (blk_cell BKg32.out 4).trans rfl
    have hf94 := blk_frozen BKg32.out 0
    have hf95 := blk_frozen BKg32.out 1
    have hf96 := blk_frozen BKg32.out 2
    have hf97 := blk_frozen BKg32.out 3
    have hf98 := blk_frozen BKg32.out 4
    go_wp2_with (((with_reducible refine gate_dst (N := 19) rfl ?_); (try (refine gate_guard (by rfl) ?_; dsimp only)); refine Kd.N_lit k28 w.heap.size 28 rfl (N' := 19) rfl (xs := ([] : List (S28))) (inner := []) (ok := (fun k_ => (P_ k_ ∨ w.heap.size ≤ k_) ∧ k_ ≠ g1 ∧ k_ ≠ g32)) (okp := (fun k_ => (P_ k_ ∨ w.heap.size ≤ k_) ∧ k_ ≠ g1 ∧ k_ ≠ g32)) ?hr ?hp (fun _ hk_ => hk_) ?hf HB.out (below_size HB.out) (by first | simp | decide) ?_; (case hr => first | (go_simp; done) | (go_simp; rfl)); (case hp => exact (Reps.none _ _)); (case hf => exact (show ∀ k_, w78.heap.size ≤ k_ → (fun k_ => (P_ k_ ∨ w.heap.size ≤ k_) ∧ k_ ≠ g1 ∧ k_ ≠ g32) k_ from fun k_ h_ => ⟨.inr (Nat.le_trans (below_size HB.out) h_), Kd.freshB (o := .cells #[.int .i64 0, .bool false, .int .i64 0, .string (⟨#[]⟩ : ByteArray), .slice none 0 0] 28 (0, 0)) BKg1.out k_ h_, Kd.freshB (o := .cells #[.int .i64 t13, .bool true, .int .i64 t15, .string t16, .slice A21 t17.length cp21] 28 (0, 0)) BKg32.out k_ h_⟩) _ (Nat.le_refl _)); intro v99 w100 hn1 hb1 hg1 hat1); replace hat1 := Aside0.mk hat1; refine stop_ ?_)
    refine Stop.go ?_
    replace hat1 := hat1.out
    have hbe := MW.grown_below hg1
    have hba := MW.base_of hat1
    replace HF2 := Aside0.mk (Kd.F_mono (Kd.F_elder' (ok := (fun k_ => (P_ k_ ∨ w.heap.size ≤ k_) ∧ k_ ≠ g1 ∧ k_ ≠ g32)) HF2.out hba hbe) (fun k_ hk_ => ⟨hk_.1.1, hk_.1.2.1, hk_.1.2.2, hk_.2⟩) : Kd.F k28 _ (fun k_ => (P_ k_ ∨ w.heap.size ≤ k_) ∧ k_ ≠ g1 ∧ k_ ≠ g32 ∧ some k_ ≠ (v99 : Value).ownBlock) _ _ _)
    replace HF21 := Aside0.mk (Kd.F_mono (Kd.F_elder' (ok := (fun k_ => (P_ k_ ∨ w.heap.size ≤ k_) ∧ k_ ≠ g1 ∧ k_ ≠ g32)) HF21.out hba hbe) (fun k_ hk_ => ⟨hk_.1.1, hk_.1.2.1, hk_.1.2.2, hk_.2⟩) : Kd.F k28 _ (fun k_ => (P_ k_ ∨ w.heap.size ≤ k_) ∧ k_ ≠ g1 ∧ k_ ≠ g32 ∧ some k_ ≠ (v99 : Value).ownBlock) _ _ _)
    replace BKg1 := Aside0.mk (blk_below (o := .cells #[.int .i64 0, .bool false, .int .i64 0, .string (⟨#[]⟩ : ByteArray), .slice none 0 0] 28 (0, 0)) BKg1.out hbe)
    replace BKg32 := Aside0.mk (blk_below (o := .cells #[.int .i64 t13, .bool true, .int .i64 t15, .string t16, .slice A21 t17.length cp21] 28 (0, 0)) BKg32.out hbe)
    replace HB := Aside0.mk hb1
    have HN101 := Aside0.mk hn1
    clear hn1 hb1 hg1 hat1 hbe hba
    clear hz79 hz80 hz81 hz82 hz83 hf84 hf85 hf86 hf87 hf88 hz89 hz90 hz91 hz92 hz93 hf94 hf95 hf96 hf97 hf98
    have hz102 : w100.cell? ⟨g1, 0, none⟩ = some (.int .i64 0) := (blk_cell BKg1.out 0).trans rfl
    have hz103 : w100.cell? ⟨g1, 1, none⟩ = some (.bool false) := (blk_cell BKg1.out 1).trans rfl
    have hz104 : w100.cell? ⟨g1, 2, none⟩ = some (.int .i64 0) := (blk_cell BKg1.out 2).trans rfl
    have hz105 : w100.cell? ⟨g1, 3, none⟩ = some (.string (⟨#[]⟩ : ByteArray)) := (blk_cell BKg1.out 3).trans rfl
    have hz106 : w100.cell? ⟨g1, 4, none⟩ = some (.slice none 0 0) := (blk_cell BKg1.out 4).trans rfl
    have hf107 := blk_frozen BKg1.out 0
    have hf108 := blk_frozen BKg1.out 1
    have hf109 := blk_frozen BKg1.out 2
    have hf110 := blk_frozen BKg1.out 3
    have hf111 := blk_frozen BKg1.out 4
    have hz112 : w100.cell? ⟨g32, 0, none⟩ = some (.int .i64 t13) := (blk_cell BKg32.out 0).trans rfl
    have hz113 : w100.cell? ⟨g32, 1, none⟩ = some (.bool true) := (blk_cell BKg32.out 1).trans rfl
    have hz114 : w100.cell? ⟨g32, 2, none⟩ = some (.int .i64 t15) := (blk_cell BKg32.out 2).trans rfl
    have hz115 : w100.cell? ⟨g32, 3, none⟩ = some (.string t16) := (blk_cell BKg32.out 3).trans rfl
    have hz116 : w100.cell? ⟨g32, 4, none⟩ = some (.slice A21 t17.length cp21) := (blk_cell BKg32.out 4).trans rfl
    have hf117 := blk_frozen BKg32.out 0
    have hf118 := blk_frozen BKg32.out 1
    have hf119 := blk_frozen BKg32.out 2
    have hf120 := blk_frozen BKg32.out 3
    have hf121 := blk_frozen BKg32.out 4
    by_cases c122 : ([] : List (S28)).length + l2.length < 2199023255552
    · have H := HH.out
      rw [if_pos c122] at H
      replace HH := Aside0.mk H
      clear H
      have LMc122 := Aside0.mk c122
      clear c122
      obtain ⟨y123, hy123⟩ : ∃ y_ : List (S28), y_ = (([] : List (S28)) ++ l2) := ⟨_, rfl⟩
      have H : (some (t13, true, t15, t16, y123, t18)) = some (r1, r2, r3, r4, r5, r6) := by rw [hy123]; exact HH.out
      replace HH := Aside0.mk H
      clear H
      have NYy123 := Aside0.mk hy123
      clear hy123
      go_wp2_with (((with_reducible refine gate_dst (N := 21) rfl ?_); (try (refine gate_guard (by rfl) ?_; dsimp only)); refine Kd.N_append_rows k28 w.heap.size rfl _ _ 24 28 (.agg #[(.int .i64 0), (.bool false), (.int .i64 0), (.string ⟨#[]⟩), (.slice none 0 0)]) 64 rfl Try.underlying24 info28 rfl (by decide) (by decide) (v99) ([] : List (S28)) l2 _ _ _ (fun k_ => (P_ k_ ∨ w.heap.size ≤ k_) ∧ k_ ≠ g1 ∧ k_ ≠ g32) (fun k_ => (fun k_ => (P_ k_ ∨ w.heap.size ≤ k_) ∧ k_ ≠ g1 ∧ k_ ≠ g32) k_ ∧ some k_ ≠ (v99 : Value).ownBlock) rfl rfl HN101.out (Kd.F_mono (ok := (fun k_ => (P_ k_ ∨ w.heap.size ≤ k_) ∧ k_ ≠ g1 ∧ k_ ≠ g32 ∧ some k_ ≠ (v99 : Value).ownBlock)) HF2.out (fun k_ hk_ => ⟨⟨hk_.1, hk_.2.1, hk_.2.2.1⟩, hk_.2.2.2⟩)) (fun _ hk_ => hk_) (fun k_ h_ => ⟨.inr (Nat.le_trans (below_size HB.out) h_), Kd.freshB (o := .cells #[.int .i64 0, .bool false, .int .i64 0, .string (⟨#[]⟩ : ByteArray), .slice none 0 0] 28 (0, 0)) BKg1.out k_ h_, Kd.freshB (o := .cells #[.int .i64 t13, .bool true, .int .i64 t15, .string t16, .slice A21 t17.length cp21] 28 (0, 0)) BKg32.out k_ h_⟩) HB.out (below_size HB.out) (by first | (have := LMc122.out; simp only [List.length_nil] at *; omega) | (have := LMc122.out; simp at *; omega)) ?_; intro v124 w125 hn1 hb1 hg1 hat1); replace hat1 := Aside0.mk hat1; refine stop_ ?_)
      refine Stop.go ?_
      replace hat1 := hat1.out
      replace HF2 := Aside0.mk (Kd.F_mono (Kd.F_after (v := v99) (ok := (fun k_ => (P_ k_ ∨ w.heap.size ≤ k_) ∧ k_ ≠ g1 ∧ k_ ≠ g32)) (Kd.F_mono (ok := (fun k_ => (P_ k_ ∨ w.heap.size ≤ k_) ∧ k_ ≠ g1 ∧ k_ ≠ g32 ∧ some k_ ≠ (v99 : Value).ownBlock)) HF2.out (fun k_ hk_ => ⟨⟨hk_.1, hk_.2.1, hk_.2.2.1⟩, hk_.2.2.2⟩)) hg1 hat1) (fun k_ hk_ => ⟨hk_.1.1, hk_.1.2.1, hk_.1.2.2, hk_.2⟩) : Kd.F k28 _ (fun k_ => (P_ k_ ∨ w.heap.size ≤ k_) ∧ k_ ≠ g1 ∧ k_ ≠ g32 ∧ some k_ ≠ (v124 : Value).ownBlock) _ _ _)
      replace HF21 := Aside0.mk (Kd.F_mono (Kd.F_after (v := v99) (ok := (fun k_ => (P_ k_ ∨ w.heap.size ≤ k_) ∧ k_ ≠ g1 ∧ k_ ≠ g32)) (Kd.F_mono (ok := (fun k_ => (P_ k_ ∨ w.heap.size ≤ k_) ∧ k_ ≠ g1 ∧ k_ ≠ g32 ∧ some k_ ≠ (v99 : Value).ownBlock)) HF21.out (fun k_ hk_ => ⟨⟨hk_.1, hk_.2.1, hk_.2.2.1⟩, hk_.2.2.2⟩)) hg1 hat1) (fun k_ hk_ => ⟨hk_.1.1, hk_.1.2.1, hk_.1.2.2, hk_.2⟩) : Kd.F k28 _ (fun k_ => (P_ k_ ∨ w.heap.size ≤ k_) ∧ k_ ≠ g1 ∧ k_ ≠ g32 ∧ some k_ ≠ (v124 : Value).ownBlock) _ _ _)
      replace BKg1 := Aside0.mk (blk_grown (o := .cells #[.int .i64 0, .bool false, .int .i64 0, .string (⟨#[]⟩ : ByteArray), .slice none 0 0] 28 (0, 0)) BKg1.out hg1 (Kd.N_away (ok := (fun k_ => (P_ k_ ∨ w.heap.size ≤ k_) ∧ k_ ≠ g1 ∧ k_ ≠ g32)) HN101.out (fun k_ hk_ => hk_.2.1)))
      replace BKg32 := Aside0.mk (blk_grown (o := .cells #[.int .i64 t13, .bool true, .int .i64 t15, .string t16, .slice A21 t17.length cp21] 28 (0, 0)) BKg32.out hg1 (Kd.N_away (ok := (fun k_ => (P_ k_ ∨ w.heap.size ≤ k_) ∧ k_ ≠ g1 ∧ k_ ≠ g32)) HN101.out (fun k_ hk_ => hk_.2.2)))
      replace HB := Aside0.mk hb1
      clear HN101
      have HN126 := Aside0.mk hn1
      clear hn1 hb1 hg1 hat1
      replace HN126 := Aside0.mk (by rw [NYy123.out]; exact HN126.out : Kd.N k28 28 w125 w.heap.size (fun k_ => (P_ k_ ∨ w.heap.size ≤ k_) ∧ k_ ≠ g1 ∧ k_ ≠ g32) v124 y123)
      clear hz102 hz103 hz104 hz105 hz106 hf107 hf108 hf109 hf110 hf111 hz112 hz113 hz114 hz115 hz116 hf117 hf118 hf119 hf120 hf121
      have hz127 : w125.cell? ⟨g1, 0, none⟩ = some (.int .i64 0) := (blk_cell BKg1.out 0).trans rfl
      have hz128 : w125.cell? ⟨g1, 1, none⟩ = some (.bool false) := (blk_cell BKg1.out 1).trans rfl
      have hz129 : w125.cell? ⟨g1, 2, none⟩ = some (.int .i64 0) := (blk_cell BKg1.out 2).trans rfl
      have hz130 : w125.cell? ⟨g1, 3, none⟩ = some (.string (⟨#[]⟩ : ByteArray)) := (blk_cell BKg1.out 3).trans rfl
      have hz131 : w125.cell? ⟨g1, 4, none⟩ = some (.slice none 0 0) := (blk_cell BKg1.out 4).trans rfl
      have hf132 := blk_frozen BKg1.out 0
      have hf133 := blk_frozen BKg1.out 1
      have hf134 := blk_frozen BKg1.out 2
      have hf135 := blk_frozen BKg1.out 3
      have hf136 := blk_frozen BKg1.out 4
      have hz137 : w125.cell? ⟨g32, 0, none⟩ = some (.int .i64 t13) := (blk_cell BKg32.out 0).trans rfl
      have hz138 : w125.cell? ⟨g32, 1, none⟩ = some (.bool true) := (blk_cell BKg32.out 1).trans rfl
      have hz139 : w125.cell? ⟨g32, 2, none⟩ = some (.int .i64 t15) := (blk_cell BKg32.out 2).trans rfl
      have hz140 : w125.cell? ⟨g32, 3, none⟩ = some (.string t16) := (blk_cell BKg32.out 3).trans rfl
      have hz141 : w125.cell? ⟨g32, 4, none⟩ = some (.slice A21 t17.length cp21) := (blk_cell BKg32.out 4).trans rfl
      have hf142 := blk_frozen BKg32.out 0
      have hf143 := blk_frozen BKg32.out 1
      have hf144 := blk_frozen BKg32.out 2
      have hf145 := blk_frozen BKg32.out 3
      have hf146 := blk_frozen BKg32.out 4
      obtain ⟨A148, cp149, he_⟩ := Kd.N_slice HN126.out
      subst he_
      go_wp2_with (((with_reducible refine gate_store (t := 24) (p := 22) rfl ?_); (try (refine gate_guard (by rfl) ?_; dsimp only)); refine MW.ev_store #[.int .i64 t13, .bool true, .int .i64 t15, .string t16, (.slice A148 y123.length cp149)] rfl rfl rfl rfl (cs := #[.int .i64 t13, .bool true, .int .i64 t15, .string t16, .slice A21 t17.length cp21]) (ty := 28) BKg32.out [(.slice A148 y123.length cp149)] rfl (by kernel_rfl) (by simp) (by simp [Value.oneCell']) rfl ?_; intro w147 hbk hg); replace hbk := Aside0.mk hbk; refine stop_ ?_)
      refine Stop.go ?_
      replace hbk := hbk.out
      replace HF2 := Aside0.mk (Kd.F_grown (ok := (fun k_ => (P_ k_ ∨ w.heap.size ≤ k_) ∧ k_ ≠ g1 ∧ k_ ≠ g32 ∧ some k_ ≠ ((.slice A148 y123.length cp149) : Value).ownBlock)) HF2.out hg (fun k_ hk_ he_ => hk_.2.2.1 (Option.some.inj he_)))
      replace HF21 := Aside0.mk (Kd.F_grown (ok := (fun k_ => (P_ k_ ∨ w.heap.size ≤ k_) ∧ k_ ≠ g1 ∧ k_ ≠ g32 ∧ some k_ ≠ ((.slice A148 y123.length cp149) : Value).ownBlock)) HF21.out hg (fun k_ hk_ he_ => hk_.2.2.1 (Option.some.inj he_)))
      replace HN126 := Aside0.mk (Kd.N_grown (ok := (fun k_ => (P_ k_ ∨ w.heap.size ≤ k_) ∧ k_ ≠ g1 ∧ k_ ≠ g32)) HN126.out hg (fun k_ hk_ he_ => hk_.2.2 (Option.some.inj he_)))
      replace BKg1 := Aside0.mk (blk_grown (o := .cells #[.int .i64 0, .bool false, .int .i64 0, .string (⟨#[]⟩ : ByteArray), .slice none 0 0] 28 (0, 0)) BKg1.out hg (fun he_ => NEg1_g32.out (Option.some.inj he_)))
      replace HB := Aside0.mk (Below.grown HB.out hg (below_size HB.out) (fun k_ hk_ => by injection hk_ with hk_; rw [← hk_]; exact GEg32.out))
      replace BKg32 := Aside0.mk hbk
      clear hg hbk
      clear hz127 hz128 hz129 hz130 hz131 hf132 hf133 hf134 hf135 hf136 hz137 hz138 hz139 hz140 hz141 hf142 hf143 hf144 hf145 hf146
      have hz150 : w147.cell? ⟨g1, 0, none⟩ = some (.int .i64 0) := (blk_cell BKg1.out 0).trans rfl
      have hz151 : w147.cell? ⟨g1, 1, none⟩ = some (.bool false) := (blk_cell BKg1.out 1).trans rfl
      have hz152 : w147.cell? ⟨g1, 2, none⟩ = some (.int .i64 0) := (blk_cell BKg1.out 2).trans rfl
      have hz153 : w147.cell? ⟨g1, 3, none⟩ = some (.string (⟨#[]⟩ : ByteArray)) := (blk_cell BKg1.out 3).trans rfl
      have hz154 : w147.cell? ⟨g1, 4, none⟩ = some (.slice none 0 0) := (blk_cell BKg1.out 4).trans rfl
      have hf155 := blk_frozen BKg1.out 0
      have hf156 := blk_frozen BKg1.out 1
      have hf157 := blk_frozen BKg1.out 2
      have hf158 := blk_frozen BKg1.out 3
      have hf159 := blk_frozen BKg1.out 4
      have hz160 : w147.cell? ⟨g32, 0, none⟩ = some (.int .i64 t13) := (blk_cell BKg32.out 0).trans rfl
      have hz161 : w147.cell? ⟨g32, 1, none⟩ = some (.bool true) := (blk_cell BKg32.out 1).trans rfl
      have hz162 : w147.cell? ⟨g32, 2, none⟩ = some (.int .i64 t15) := (blk_cell BKg32.out 2).trans rfl
      have hz163 : w147.cell? ⟨g32, 3, none⟩ = some (.string t16) := (blk_cell BKg32.out 3).trans rfl
      have hz164 : w147.cell? ⟨g32, 4, none⟩ = some ((.slice A148 y123.length cp149)) := (blk_cell BKg32.out 4).trans rfl
      have hf165 := blk_frozen BKg32.out 0
      have hf166 := blk_frozen BKg32.out 1
      have hf167 := blk_frozen BKg32.out 2
      have hf168 := blk_frozen BKg32.out 3
      have hf169 := blk_frozen BKg32.out 4
      go_wp2_with (((with_reducible refine gate_store (t := 28) (p := 6) rfl ?_); (try (refine gate_guard (by rfl) ?_; dsimp only)); refine MW.ev_store #[.int .i64 t13, .bool true, .int .i64 t15, .string t16, (.slice A148 y123.length cp149)] rfl rfl rfl rfl (cs := #[.int .i64 0, .bool false, .int .i64 0, .string (⟨#[]⟩ : ByteArray), .slice none 0 0]) (ty := 28) BKg1.out [.int .i64 t13, .bool true, .int .i64 t15, .string t16, (.slice A148 y123.length cp149)] rfl (by kernel_rfl) (by simp) (by simp [Value.oneCell']) rfl ?_; intro w170 hbk hg); replace hbk := Aside0.mk hbk; refine stop_ ?_)
      refine Stop.go ?_
      replace hbk := hbk.out
      replace HF2 := Aside0.mk (Kd.F_grown (ok := (fun k_ => (P_ k_ ∨ w.heap.size ≤ k_) ∧ k_ ≠ g1 ∧ k_ ≠ g32 ∧ some k_ ≠ ((.slice A148 y123.length cp149) : Value).ownBlock)) HF2.out hg (fun k_ hk_ he_ => hk_.2.1 (Option.some.inj he_)))
      replace HF21 := Aside0.mk (Kd.F_grown (ok := (fun k_ => (P_ k_ ∨ w.heap.size ≤ k_) ∧ k_ ≠ g1 ∧ k_ ≠ g32 ∧ some k_ ≠ ((.slice A148 y123.length cp149) : Value).ownBlock)) HF21.out hg (fun k_ hk_ he_ => hk_.2.1 (Option.some.inj he_)))
      replace HN126 := Aside0.mk (Kd.N_grown (ok := (fun k_ => (P_ k_ ∨ w.heap.size ≤ k_) ∧ k_ ≠ g1 ∧ k_ ≠ g32)) HN126.out hg (fun k_ hk_ he_ => hk_.2.1 (Option.some.inj he_)))
      replace BKg32 := Aside0.mk (blk_grown (o := .cells #[.int .i64 t13, .bool true, .int .i64 t15, .string t16, (.slice A148 y123.length cp149)] 28 (0, 0)) BKg32.out hg (fun he_ => NEg32_g1.out (Option.some.inj he_)))
      replace HB := Aside0.mk (Below.grown HB.out hg (below_size HB.out) (fun k_ hk_ => by injection hk_ with hk_; rw [← hk_]; exact GEg1.out))
      replace BKg1 := Aside0.mk hbk
      clear hg hbk
      clear hz150 hz151 hz152 hz153 hz154 hf155 hf156 hf157 hf158 hf159 hz160 hz161 hz162 hz163 hz164 hf165 hf166 hf167 hf168 hf169
      have hz171 : w170.cell? ⟨g1, 0, none⟩ = some (.int .i64 t13) := (blk_cell BKg1.out 0).trans rfl
      have hz172 : w170.cell? ⟨g1, 1, none⟩ = some (.bool true) := (blk_cell BKg1.out 1).trans rfl
      have hz173 : w170.cell? ⟨g1, 2, none⟩ = some (.int .i64 t15) := (blk_cell BKg1.out 2).trans rfl
      have hz174 : w170.cell? ⟨g1, 3, none⟩ = some (.string t16) := (blk_cell BKg1.out 3).trans rfl
      have hz175 : w170.cell? ⟨g1, 4, none⟩ = some ((.slice A148 y123.length cp149)) := (blk_cell BKg1.out 4).trans rfl
      have hf176 := blk_frozen BKg1.out 0
      have hf177 := blk_frozen BKg1.out 1
      have hf178 := blk_frozen BKg1.out 2
      have hf179 := blk_frozen BKg1.out 3
      have hf180 := blk_frozen BKg1.out 4
      have hz181 : w170.cell? ⟨g32, 0, none⟩ = some (.int .i64 t13) := (blk_cell BKg32.out 0).trans rfl
      have hz182 : w170.cell? ⟨g32, 1, none⟩ = some (.bool true) := (blk_cell BKg32.out 1).trans rfl
      have hz183 : w170.cell? ⟨g32, 2, none⟩ = some (.int .i64 t15) := (blk_cell BKg32.out 2).trans rfl
      have hz184 : w170.cell? ⟨g32, 3, none⟩ = some (.string t16) := (blk_cell BKg32.out 3).trans rfl
      have hz185 : w170.cell? ⟨g32, 4, none⟩ = some ((.slice A148 y123.length cp149)) := (blk_cell BKg32.out 4).trans rfl
      have hf186 := blk_frozen BKg32.out 0
      have hf187 := blk_frozen BKg32.out 1
      have hf188 := blk_frozen BKg32.out 2
      have hf189 := blk_frozen BKg32.out 3
      have hf190 := blk_frozen BKg32.out 4
      have HL194 := Aside0.mk (Kd.N_reads' HN126.out).2.1
      have HF193 := Aside0.mk (Kd.N_F HN126.out)
      clear HN126
      replace HF2 := Aside0.mk (Kd.F_mono (ok := (fun k_ => (P_ k_ ∨ w.heap.size ≤ k_) ∧ k_ ≠ g1 ∧ k_ ≠ g32 ∧ some k_ ≠ ((.slice A148 y123.length cp149) : Value).ownBlock)) HF2.out (fun k_ hk_ => ⟨hk_.1, hk_.2.1, hk_.2.2.1⟩) : Kd.F k28 _ (fun k_ => (P_ k_ ∨ w.heap.size ≤ k_) ∧ k_ ≠ g1 ∧ k_ ≠ g32) _ _ _)
      replace HF21 := Aside0.mk (Kd.F_mono (ok := (fun k_ => (P_ k_ ∨ w.heap.size ≤ k_) ∧ k_ ≠ g1 ∧ k_ ≠ g32 ∧ some k_ ≠ ((.slice A148 y123.length cp149) : Value).ownBlock)) HF21.out (fun k_ hk_ => ⟨hk_.1, hk_.2.1, hk_.2.2.1⟩) : Kd.F k28 _ (fun k_ => (P_ k_ ∨ w.heap.size ≤ k_) ∧ k_ ≠ g1 ∧ k_ ≠ g32) _ _ _)
      have H := HH.out
      simp only [Option.some.injEq, Prod.mk.injEq] at H
      obtain ⟨rfl, rfl, rfl, rfl, rfl, rfl⟩ := H
      clear HH
      go_wp2
      refine bodyPost_ret (results_ct rfl _ _ g1 28 #[.int .i64 t13, .bool true, .int .i64 t15, .string t16, .slice A148 y123.length cp149] (0, 0) _ rfl BKg1.out Try.underlying28 rfl (by kernel_rfl)) rfl ?_
      exact ⟨_, _, by first | rfl | (simp; done) | (simp [*]; done), HL194.out, (Kd.F_mono (ok := (fun k_ => (P_ k_ ∨ w.heap.size ≤ k_) ∧ k_ ≠ g1 ∧ k_ ≠ g32)) HF193.out (fun k_ hk_ => hk_.1)), HB.out⟩
    · exact absurd HH.out (by rw [if_neg c122]; simp)
  · have H := HH.out
    rw [if_neg c75] at H
    replace HH := Aside0.mk H
    clear H
    have hk195 : (t18 == 0) = false := beq_eq_false_iff_ne.mpr c75
    have hk196 : (t18 != 0) = true := bne_iff_ne.mpr c75
    clear c75
    go_wp2_with (((with_reducible refine gate_store (t := 28) (p := 6) rfl ?_); (try (refine gate_guard (by rfl) ?_; dsimp only)); refine MW.ev_store #[.int .i64 t13, .bool t14, .int .i64 t15, .string t16, .slice A21 t17.length cp21] rfl rfl rfl rfl (cs := #[.int .i64 0, .bool false, .int .i64 0, .string (⟨#[]⟩ : ByteArray), .slice none 0 0]) (ty := 28) BKg1.out [.int .i64 t13, .bool t14, .int .i64 t15, .string t16, .slice A21 t17.length cp21] rfl (by kernel_rfl) (by simp) (by simp [Value.oneCell']) rfl ?_; intro w197 hbk hg); replace hbk := Aside0.mk hbk; refine stop_ ?_)
    refine Stop.go ?_
    replace hbk := hbk.out
    replace HF2 := Aside0.mk (Kd.F_grown (ok := (fun k_ => (P_ k_ ∨ w.heap.size ≤ k_) ∧ k_ ≠ g1 ∧ k_ ≠ g32)) HF2.out hg (fun k_ hk_ he_ => hk_.2.1 (Option.some.inj he_)))
    replace HF21 := Aside0.mk (Kd.F_grown (ok := (fun k_ => (P_ k_ ∨ w.heap.size ≤ k_) ∧ k_ ≠ g1 ∧ k_ ≠ g32)) HF21.out hg (fun k_ hk_ he_ => hk_.2.1 (Option.some.inj he_)))
    replace BKg32 := Aside0.mk (blk_grown (o := .cells #[.int .i64 t13, .bool t14, .int .i64 t15, .string t16, .slice A21 t17.length cp21] 28 (0, 0)) BKg32.out hg (fun he_ => NEg32_g1.out (Option.some.inj he_)))
    replace HB := Aside0.mk (Below.grown HB.out hg (below_size HB.out) (fun k_ hk_ => by injection hk_ with hk_; rw [← hk_]; exact GEg1.out))
    replace BKg1 := Aside0.mk hbk
    clear hg hbk
    clear hz55 hz56 hz57 hz58 hz59 hf60 hf61 hf62 hf63 hf64 hz65 hz66 hz67 hz68 hz69 hf70 hf71 hf72 hf73 hf74
    have hz198 : w197.cell? ⟨g1, 0, none⟩ = some (.int .i64 t13) := (blk_cell BKg1.out 0).trans rfl
    have hz199 : w197.cell? ⟨g1, 1, none⟩ = some (.bool t14) := (blk_cell BKg1.out 1).trans rfl
    have hz200 : w197.cell? ⟨g1, 2, none⟩ = some (.int .i64 t15) := (blk_cell BKg1.out 2).trans rfl
    have hz201 : w197.cell? ⟨g1, 3, none⟩ = some (.string t16) := (blk_cell BKg1.out 3).trans rfl
    have hz202 : w197.cell? ⟨g1, 4, none⟩ = some (.slice A21 t17.length cp21) := (blk_cell BKg1.out 4).trans rfl
    have hf203 := blk_frozen BKg1.out 0
    have hf204 := blk_frozen BKg1.out 1
    have hf205 := blk_frozen BKg1.out 2
    have hf206 := blk_frozen BKg1.out 3
    have hf207 := blk_frozen BKg1.out 4
    have hz208 : w197.cell? ⟨g32, 0, none⟩ = some (.int .i64 t13) := (blk_cell BKg32.out 0).trans rfl
    have hz209 : w197.cell? ⟨g32, 1, none⟩ = some (.bool t14) := (blk_cell BKg32.out 1).trans rfl
    have hz210 : w197.cell? ⟨g32, 2, none⟩ = some (.int .i64 t15) := (blk_cell BKg32.out 2).trans rfl
    have hz211 : w197.cell? ⟨g32, 3, none⟩ = some (.string t16) := (blk_cell BKg32.out 3).trans rfl
    have hz212 : w197.cell? ⟨g32, 4, none⟩ = some (.slice A21 t17.length cp21) := (blk_cell BKg32.out 4).trans rfl
    have hf213 := blk_frozen BKg32.out 0
    have hf214 := blk_frozen BKg32.out 1
    have hf215 := blk_frozen BKg32.out 2
    have hf216 := blk_frozen BKg32.out 3
    have hf217 := blk_frozen BKg32.out 4
    have H := HH.out
    simp only [Option.some.injEq, Prod.mk.injEq] at H
    obtain ⟨rfl, rfl, rfl, rfl, rfl, rfl⟩ := H
    clear HH
    go_wp2
    refine bodyPost_ret (results_ct rfl _ _ g1 28 #[.int .i64 t13, .bool t14, .int .i64 t15, .string t16, .slice A21 t17.length cp21] (0, 0) _ rfl BKg1.out Try.underlying28 rfl (by kernel_rfl)) rfl ?_
    exact ⟨_, _, by first | rfl | (simp; done) | (simp [*]; done), HL21.out, (Kd.F_mono (ok := (fun k_ => (P_ k_ ∨ w.heap.size ≤ k_) ∧ k_ ≠ g1 ∧ k_ ≠ g32)) HF21.out (fun k_ hk_ => hk_.1)), HB.out⟩

end Go.Proofs.Ytliackbiljhioaa.GA
