-- written by wip/gen.py, a program of this session
import Derived.Test.YtliackbiljhioaaGA0
import Derived.Test.YtliackbiljhioaaGAF32
namespace Go.Proofs.Ytliackbiljhioaa.GA
open Go.RowKit Go.Proofs.Ytliackbiljhioaa Go.Proofs.Ytliackbiljhioaa.MW Go.Proofs.YtliackbiljhioaaW.PrintWords Go.Proofs.YtliackbiljhioaaW.PrintLast Go.Proofs.YtliackbiljhioaaW.PrintMore
attribute [local go_sem] max2_int min2_int max_two min_two
set_option linter.unusedVariables false
set_option linter.unusedSimpArgs false

/-! ### toponymref16_Text: function 20 -/
def toponymref16_Text.f (a0 : Int) (a1 : Int) (a2 : ByteArray) : Option (Int × Bool × Int × ByteArray × (List (S28)) × Int) := (toponymref16_sort.f a0 a1).bind fun bt13 => (if bt13.2.2.2.2.2 = 0 then (some (bt13.1, bt13.2.1, bt13.2.2.1, a2, bt13.2.2.2.2.1, bt13.2.2.2.2.2)) else (some (bt13.1, bt13.2.1, bt13.2.2.1, bt13.2.2.2.1, bt13.2.2.2.2.1, bt13.2.2.2.2.2)))
set_option maxHeartbeats 8000000 in
set_option maxRecDepth 100000 in
theorem toponymref16_Text.calls (a0 : Int) (a1 : Int) (a2 : ByteArray) (r1 : Int) (r2 : Bool) (r3 : Int) (r4 : ByteArray) (r5 : List (S28)) (r6 : Int) (w : World) (h : toponymref16_Text.f a0 a1 a2 = some (r1, r2, r3, r4, r5, r6)) :
    Calls Try.prog 20 #[.int .i64 a0, .int .i64 a1, .string a2] w (fun e w' => ∃ (A4_ : Option Addr) (c4_ : Nat), e = .returned (.tuple #[.agg #[.int .i64 r1, .bool r2, .int .i64 r3, .string r4, .slice A4_ r5.length c4_], .int .i64 r6]) ∧ r5.length ≤ c4_ ∧ Kd.F k28 w' (fun k_ => w.heap.size ≤ k_) A4_ r5.length r5 ∧ Below w.heap.size w w') := by
  have HH := Aside0.mk (show ((toponymref16_sort.f a0 a1).bind fun bt13 => (if bt13.2.2.2.2.2 = 0 then (some (bt13.1, bt13.2.1, bt13.2.2.1, a2, bt13.2.2.2.2.1, bt13.2.2.2.2.2)) else (some (bt13.1, bt13.2.1, bt13.2.2.1, bt13.2.2.2.1, bt13.2.2.2.2.1, bt13.2.2.2.2.2)))) = some (r1, r2, r3, r4, r5, r6) from h)
  clear h
  have HB := Aside0.mk (Below.refl w.heap.size w)
  have hu28 := Try.underlying28
  go_enter Try.func20, Try.ntmps20
  go_wp2_with (((with_reducible refine gate_dst (N := 6) rfl ?_); (try (refine gate_guard (by rfl) ?_; dsimp only)); refine box_event ?hg (N := 6) ?hd (cs := #[.int .i64 0, .bool false, .int .i64 0, .string (⟨#[]⟩ : ByteArray), .slice none 0 0]) (t := 28) ?hr ?_; (case hd => rfl); (case hg => rfl); (case hr => first | (go_simp; done) | (go_simp; rfl)); intro g1 hg w2 hbox hb); replace hg := Aside0.mk hg; replace hbox := Aside0.mk hbox; refine stop_ ?_)
  refine Stop.go ?_
  replace hg := hg.out
  replace hbox := hbox.out
  have GEg1 := Aside0.mk (by rw [hg]; exact (below_size HB.out) : w.heap.size ≤ g1)
  replace HB := Aside0.mk (below_step HB.out hb)
  have BKg1 := Aside0.mk hbox
  clear hg hbox hb
  have hz3 : w2.cell? ⟨g1, 0, none⟩ = some (.int .i64 0) := (blk_cell BKg1.out 0).trans rfl
  have hz4 : w2.cell? ⟨g1, 1, none⟩ = some (.bool false) := (blk_cell BKg1.out 1).trans rfl
  have hz5 : w2.cell? ⟨g1, 2, none⟩ = some (.int .i64 0) := (blk_cell BKg1.out 2).trans rfl
  have hz6 : w2.cell? ⟨g1, 3, none⟩ = some (.string (⟨#[]⟩ : ByteArray)) := (blk_cell BKg1.out 3).trans rfl
  have hz7 : w2.cell? ⟨g1, 4, none⟩ = some (.slice none 0 0) := (blk_cell BKg1.out 4).trans rfl
  have hf8 := blk_frozen BKg1.out 0
  have hf9 := blk_frozen BKg1.out 1
  have hf10 := blk_frozen BKg1.out 2
  have hf11 := blk_frozen BKg1.out 3
  have hf12 := blk_frozen BKg1.out 4
  have H := HH.out
  replace H := Option.bind_eq_some_iff.mp H
  obtain ⟨⟨t13, t14, t15, t16, t17, t18⟩, at_, H⟩ := H
  have At19 := Aside0.mk at_
  clear at_
  replace HH := Aside0.mk (show (if t18 = 0 then (some (t13, t14, t15, a2, t17, t18)) else (some (t13, t14, t15, t16, t17, t18))) = some (r1, r2, r3, r4, r5, r6) from H)
  clear H
  go_wp2_with (((with_reducible refine gate_callee (f := 32) rfl ?_); (try (refine gate_guard (by rfl) ?_; dsimp only)); refine goesL_ (some 13) rfl rfl Try.func32 (by kernel_rfl) rfl #[.int .i64 a0, .int .i64 a1] rfl (by (try simp only [List.map_toArray, List.map_cons, List.map_nil]); first | done | rfl | (simp only [List.length_drop, List.length_take]; rfl)) ?_; (with_reducible refine (toponymref16_sort.calls  a0 a1 t13 t14 t15 t16 t17 t18 _  At19.out).mono ?_); rintro e w20 ⟨v21, rfl, hn21, hb⟩; refine ⟨_, rfl, ?_⟩); refine stop_ ?_)
  refine Stop.go ?_
  obtain ⟨A21, cp21, he_⟩ := Kd.N_slice hn21
  subst he_
  have HL21 := Aside0.mk (Kd.N_reads' hn21).2.1
  have HF21 := Aside0.mk (Kd.F_mono (Kd.N_F hn21) (fun k_ h_ => ⟨(Nat.le_trans (below_size HB.out) h_), Kd.freshB (o := .cells #[.int .i64 0, .bool false, .int .i64 0, .string (⟨#[]⟩ : ByteArray), .slice none 0 0] 28 (0, 0)) BKg1.out k_ h_⟩) : Kd.F k28 _ (fun k_ => (w.heap.size ≤ k_) ∧ k_ ≠ g1) _ _ _)
  clear hn21
  replace BKg1 := Aside0.mk (blk_below (o := .cells #[.int .i64 0, .bool false, .int .i64 0, .string (⟨#[]⟩ : ByteArray), .slice none 0 0] 28 (0, 0)) BKg1.out hb)
  replace HB := Aside0.mk (below_step HB.out hb)
  clear hb
  clear hz3 hz4 hz5 hz6 hz7 hf8 hf9 hf10 hf11 hf12
  have hz22 : w20.cell? ⟨g1, 0, none⟩ = some (.int .i64 0) := (blk_cell BKg1.out 0).trans rfl
  have hz23 : w20.cell? ⟨g1, 1, none⟩ = some (.bool false) := (blk_cell BKg1.out 1).trans rfl
  have hz24 : w20.cell? ⟨g1, 2, none⟩ = some (.int .i64 0) := (blk_cell BKg1.out 2).trans rfl
  have hz25 : w20.cell? ⟨g1, 3, none⟩ = some (.string (⟨#[]⟩ : ByteArray)) := (blk_cell BKg1.out 3).trans rfl
  have hz26 : w20.cell? ⟨g1, 4, none⟩ = some (.slice none 0 0) := (blk_cell BKg1.out 4).trans rfl
  have hf27 := blk_frozen BKg1.out 0
  have hf28 := blk_frozen BKg1.out 1
  have hf29 := blk_frozen BKg1.out 2
  have hf30 := blk_frozen BKg1.out 3
  have hf31 := blk_frozen BKg1.out 4
  go_wp2_with (((with_reducible refine gate_dst (N := 8) rfl ?_); (try (refine gate_guard (by rfl) ?_; dsimp only)); refine box_event ?hg (N := 8) ?hd (cs := #[.int .i64 0, .bool false, .int .i64 0, .string (⟨#[]⟩ : ByteArray), .slice none 0 0]) (t := 28) ?hr ?_; (case hd => rfl); (case hg => rfl); (case hr => first | (go_simp; done) | (go_simp; rfl)); intro g32 hg w33 hbox hb); replace hg := Aside0.mk hg; replace hbox := Aside0.mk hbox; refine stop_ ?_)
  refine Stop.go ?_
  replace hg := hg.out
  replace hbox := hbox.out
  have GEg32 := Aside0.mk (by rw [hg]; exact (below_size HB.out) : w.heap.size ≤ g32)
  replace HF21 := Aside0.mk (Kd.F_elderB HF21.out g32 (Nat.le_of_eq hg.symm))
  replace HF21 := Aside0.mk (Kd.F_mono HF21.out (fun k_ hk_ => ⟨hk_.1.1, hk_.1.2, hk_.2⟩) : Kd.F k28 _ (fun k_ => (w.heap.size ≤ k_) ∧ k_ ≠ g1 ∧ k_ ≠ g32) _ _ _)
  have NEg1_g32 := Aside0.mk (by rw [hg]; exact Nat.ne_of_lt (blk_lt (o := .cells #[.int .i64 0, .bool false, .int .i64 0, .string (⟨#[]⟩ : ByteArray), .slice none 0 0] 28 (0, 0)) BKg1.out) : g1 ≠ g32)
  have NEg32_g1 := Aside0.mk (Ne.symm NEg1_g32.out)
  replace HF21 := Aside0.mk (Kd.F_below HF21.out hb)
  replace BKg1 := Aside0.mk (blk_below (o := .cells #[.int .i64 0, .bool false, .int .i64 0, .string (⟨#[]⟩ : ByteArray), .slice none 0 0] 28 (0, 0)) BKg1.out hb)
  replace HB := Aside0.mk (below_step HB.out hb)
  have BKg32 := Aside0.mk hbox
  clear hg hbox hb
  clear hz22 hz23 hz24 hz25 hz26 hf27 hf28 hf29 hf30 hf31
  have hz34 : w33.cell? ⟨g1, 0, none⟩ = some (.int .i64 0) := (blk_cell BKg1.out 0).trans rfl
  have hz35 : w33.cell? ⟨g1, 1, none⟩ = some (.bool false) := (blk_cell BKg1.out 1).trans rfl
  have hz36 : w33.cell? ⟨g1, 2, none⟩ = some (.int .i64 0) := (blk_cell BKg1.out 2).trans rfl
  have hz37 : w33.cell? ⟨g1, 3, none⟩ = some (.string (⟨#[]⟩ : ByteArray)) := (blk_cell BKg1.out 3).trans rfl
  have hz38 : w33.cell? ⟨g1, 4, none⟩ = some (.slice none 0 0) := (blk_cell BKg1.out 4).trans rfl
  have hf39 := blk_frozen BKg1.out 0
  have hf40 := blk_frozen BKg1.out 1
  have hf41 := blk_frozen BKg1.out 2
  have hf42 := blk_frozen BKg1.out 3
  have hf43 := blk_frozen BKg1.out 4
  have hz44 : w33.cell? ⟨g32, 0, none⟩ = some (.int .i64 0) := (blk_cell BKg32.out 0).trans rfl
  have hz45 : w33.cell? ⟨g32, 1, none⟩ = some (.bool false) := (blk_cell BKg32.out 1).trans rfl
  have hz46 : w33.cell? ⟨g32, 2, none⟩ = some (.int .i64 0) := (blk_cell BKg32.out 2).trans rfl
  have hz47 : w33.cell? ⟨g32, 3, none⟩ = some (.string (⟨#[]⟩ : ByteArray)) := (blk_cell BKg32.out 3).trans rfl
  have hz48 : w33.cell? ⟨g32, 4, none⟩ = some (.slice none 0 0) := (blk_cell BKg32.out 4).trans rfl
  have hf49 := blk_frozen BKg32.out 0
  have hf50 := blk_frozen BKg32.out 1
  have hf51 := blk_frozen BKg32.out 2
  have hf52 := blk_frozen BKg32.out 3
  have hf53 := blk_frozen BKg32.out 4
  go_wp2_with (((with_reducible refine gate_store (t := 28) (p := 8) rfl ?_); (try (refine gate_guard (by rfl) ?_; dsimp only)); refine MW.ev_store #[.int .i64 t13, .bool t14, .int .i64 t15, .string t16, .slice A21 t17.length cp21] rfl rfl rfl rfl (cs := #[.int .i64 0, .bool false, .int .i64 0, .string (⟨#[]⟩ : ByteArray), .slice none 0 0]) (ty := 28) BKg32.out [.int .i64 t13, .bool t14, .int .i64 t15, .string t16, .slice A21 t17.length cp21] rfl (by kernel_rfl) (by simp) (by simp [Value.oneCell']) rfl ?_; intro w54 hbk hg); replace hbk := Aside0.mk hbk; refine stop_ ?_)
  refine Stop.go ?_
  replace hbk := hbk.out
  replace HF21 := Aside0.mk (Kd.F_grown (ok := (fun k_ => (w.heap.size ≤ k_) ∧ k_ ≠ g1 ∧ k_ ≠ g32)) HF21.out hg (fun k_ hk_ he_ => hk_.2.2 (Option.some.inj he_)))
  replace BKg1 := Aside0.mk (blk_grown (o := .cells #[.int .i64 0, .bool false, .int .i64 0, .string (⟨#[]⟩ : ByteArray), .slice none 0 0] 28 (0, 0)) BKg1.out hg (fun he_ => NEg1_g32.out (Option.some.inj he_)))
  replace HB := Aside0.mk (Below.grown HB.out hg (below_size HB.out) (fun k_ hk_ => by injection hk_ with hk_; rw [← hk_]; exact GEg32.out))
  replace BKg32 := Aside0.mk hbk
  clear hg hbk
  clear hz34 hz35 hz36 hz37 hz38 hf39 hf40 hf41 hf42 hf43 hz44 hz45 hz46 hz47 hz48 hf49 hf50 hf51 hf52 hf53
  have hz55 : w54.cell? ⟨g1, 0, none⟩ = some (.int .i64 0) := (blk_cell BKg1.out 0).trans rfl
  have hz56 : w54.cell? ⟨g1, 1, none⟩ = some (.bool false) := (blk_cell BKg1.out 1).trans rfl
  have hz57 : w54.cell? ⟨g1, 2, none⟩ = some (.int .i64 0) := (blk_cell BKg1.out 2).trans rfl
  have hz58 : w54.cell? ⟨g1, 3, none⟩ = some (.string (⟨#[]⟩ : ByteArray)) := (blk_cell BKg1.out 3).trans rfl
  have hz59 : w54.cell? ⟨g1, 4, none⟩ = some (.slice none 0 0) := (blk_cell BKg1.out 4).trans rfl
  have hf60 := blk_frozen BKg1.out 0
  have hf61 := blk_frozen BKg1.out 1
  have hf62 := blk_frozen BKg1.out 2
  have hf63 := blk_frozen BKg1.out 3
  have hf64 := blk_frozen BKg1.out 4
  have hz65 : w54.cell? ⟨g32, 0, none⟩ = some (.int .i64 t13) := (blk_cell BKg32.out 0).trans rfl
  have hz66 : w54.cell? ⟨g32, 1, none⟩ = some (.bool t14) := (blk_cell BKg32.out 1).trans rfl
  have hz67 : w54.cell? ⟨g32, 2, none⟩ = some (.int .i64 t15) := (blk_cell BKg32.out 2).trans rfl
  have hz68 : w54.cell? ⟨g32, 3, none⟩ = some (.string t16) := (blk_cell BKg32.out 3).trans rfl
  have hz69 : w54.cell? ⟨g32, 4, none⟩ = some (.slice A21 t17.length cp21) := (blk_cell BKg32.out 4).trans rfl
  have hf70 := blk_frozen BKg32.out 0
  have hf71 := blk_frozen BKg32.out 1
  have hf72 := blk_frozen BKg32.out 2
  have hf73 := blk_frozen BKg32.out 3
  have hf74 := blk_frozen BKg32.out 4
  by_cases c75 : t18 = 0
  · have H := HH.out
    rw [if_pos c75] at H
    replace HH := Aside0.mk H
    clear H
    have hk76 : (t18 == 0) = true := beq_iff_eq.mpr c75
    have hk77 : (t18 != 0) = false := bne_eq_false_iff_eq.mpr c75
    clear c75
    go_wp2_with (((with_reducible refine gate_store (t := 9) (p := 19) rfl ?_); (try (refine gate_guard (by rfl) ?_; dsimp only)); refine MW.ev_store #[.int .i64 t13, .bool t14, .int .i64 t15, .string a2, .slice A21 t17.length cp21] rfl rfl rfl rfl (cs := #[.int .i64 t13, .bool t14, .int .i64 t15, .string t16, .slice A21 t17.length cp21]) (ty := 28) BKg32.out [.string a2] rfl (by kernel_rfl) (by simp) (by simp [Value.oneCell']) rfl ?_; intro w78 hbk hg); replace hbk := Aside0.mk hbk; refine stop_ ?_)
    refine Stop.go ?_
    replace hbk := hbk.out
    replace HF21 := Aside0.mk (Kd.F_grown (ok := (fun k_ => (w.heap.size ≤ k_) ∧ k_ ≠ g1 ∧ k_ ≠ g32)) HF21.out hg (fun k_ hk_ he_ => hk_.2.2 (Option.some.inj he_)))
    replace BKg1 := Aside0.mk (blk_grown (o := .cells #[.int .i64 0, .bool false, .int .i64 0, .string (⟨#[]⟩ : ByteArray), .slice none 0 0] 28 (0, 0)) BKg1.out hg (fun he_ => NEg1_g32.out (Option.some.inj he_)))
    replace HB := Aside0.mk (Below.grown HB.out hg (below_size HB.out) (fun k_ hk_ => by injection hk_ with hk_; rw [← hk_]; exact GEg32.out))
    replace BKg32 := Aside0.mk hbk
    clear hg hbk
    clear hz55 hz56 hz57 hz58 hz59 hf60 hf61 hf62 hf63 hf64 hz65 hz66 hz67 hz68 hz69 hf70 hf71 hf72 hf73 hf74
    have hz79 : w78.cell? ⟨g1, 0, none⟩ = some (.int .i64 0) := (blk_cell BKg1.out 0).trans rfl
    have hz80 : w78.cell? ⟨g1, 1, none⟩ = some (.bool false) := (blk_cell BKg1.out 1).trans rfl
    have hz81 : w78.cell? ⟨g1, 2, none⟩ = some (.int .i64 0) := (blk_cell BKg1.out 2).trans rfl
    have hz82 : w78.cell? ⟨g1, 3, none⟩ = some (.string (⟨#[]⟩ : ByteArray)) := (blk_cell BKg1.out 3).trans rfl
    have hz83 : w78.cell? ⟨g1, 4, none⟩ = some (.slice none 0 0) := (blk_cell BKg1.out 4).trans rfl
    have hf84 := blk_frozen BKg1.out 0
    have hf85 := blk_frozen BKg1.out 1
    have hf86 := blk_frozen BKg1.out 2
    have hf87 := blk_frozen BKg1.out 3
    have hf88 := blk_frozen BKg1.out 4
    have hz89 : w78.cell? ⟨g32, 0, none⟩ = some (.int .i64 t13) := (blk_cell BKg32.out 0).trans rfl
    have hz90 : w78.cell? ⟨g32, 1, none⟩ = some (.bool t14) := (blk_cell BKg32.out 1).trans rfl
    have hz91 : w78.cell? ⟨g32, 2, none⟩ = some (.int .i64 t15) := (blk_cell BKg32.out 2).trans rfl
    have hz92 : w78.cell? ⟨g32, 3, none⟩ = some (.string a2) := (blk_cell BKg32.out 3).trans rfl
    have hz93 : w78.cell? ⟨g32, 4, none⟩ = some (.slice A21 t17.length cp21) := (blk_cell BKg32.out 4).trans rfl
    have hf94 := blk_frozen BKg32.out 0
    have hf95 := blk_frozen BKg32.out 1
    have hf96 := blk_frozen BKg32.out 2
    have hf97 := blk_frozen BKg32.out 3
    have hf98 := blk_frozen BKg32.out 4
    go_wp2_with (((with_reducible refine gate_store (t := 28) (p := 6) rfl ?_); (try (refine gate_guard (by rfl) ?_; dsimp only)); refine MW.ev_store #[.int .i64 t13, .bool t14, .int .i64 t15, .string a2, .slice A21 t17.length cp21] rfl rfl rfl rfl (cs := #[.int .i64 0, .bool false, .int .i64 0, .string (⟨#[]⟩ : ByteArray), .slice none 0 0]) (ty := 28) BKg1.out [.int .i64 t13, .bool t14, .int .i64 t15, .string a2, .slice A21 t17.length cp21] rfl (by kernel_rfl) (by simp) (by simp [Value.oneCell']) rfl ?_; intro w99 hbk hg); replace hbk := Aside0.mk hbk; refine stop_ ?_)
    refine Stop.go ?_
    replace hbk := hbk.out
    replace HF21 := Aside0.mk (Kd.F_grown (ok := (fun k_ => (w.heap.size ≤ k_) ∧ k_ ≠ g1 ∧ k_ ≠ g32)) HF21.out hg (fun k_ hk_ he_ => hk_.2.1 (Option.some.inj he_)))
    replace BKg32 := Aside0.mk (blk_grown (o := .cells #[.int .i64 t13, .bool t14, .int .i64 t15, .string a2, .slice A21 t17.length cp21] 28 (0, 0)) BKg32.out hg (fun he_ => NEg32_g1.out (Option.some.inj he_)))
    replace HB := Aside0.mk (Below.grown HB.out hg (below_size HB.out) (fun k_ hk_ => by injection hk_ with hk_; rw [← hk_]; exact GEg1.out))
    replace BKg1 := Aside0.mk hbk
    clear hg hbk
    clear hz79 hz80 hz81 hz82 hz83 hf84 hf85 hf86 hf87 hf88 hz89 hz90 hz91 hz92 hz93 hf94 hf95 hf96 hf97 hf98
    have hz100 : w99.cell? ⟨g1, 0, none⟩ = some (.int .i64 t13) := (blk_cell BKg1.out 0).trans rfl
    have hz101 : w99.cell? ⟨g1, 1, none⟩ = some (.bool t14) := (blk_cell BKg1.out 1).trans rfl
    have hz102 : w99.cell? ⟨g1, 2, none⟩ = some (.int .i64 t15) := (blk_cell BKg1.out 2).trans rfl
    have hz103 : w99.cell? ⟨g1, 3, none⟩ = some (.string a2) := (blk_cell BKg1.out 3).trans rfl
    have hz104 : w99.cell? ⟨g1, 4, none⟩ = some (.slice A21 t17.length cp21) := (blk_cell BKg1.out 4).trans rfl
    have hf105 := blk_frozen BKg1.out 0
    have hf106 := blk_frozen BKg1.out 1
    have hf107 := blk_frozen BKg1.out 2
    have hf108 := blk_frozen BKg1.out 3
    have hf109 := blk_frozen BKg1.out 4
    have hz110 : w99.cell? ⟨g32, 0, none⟩ = some (.int .i64 t13) := (blk_cell BKg32.out 0).trans rfl
    have hz111 : w99.cell? ⟨g32, 1, none⟩ = some (.bool t14) := (blk_cell BKg32.out 1).trans rfl
    have hz112 : w99.cell? ⟨g32, 2, none⟩ = some (.int .i64 t15) := (blk_cell BKg32.out 2).trans rfl
    have hz113 : w99.cell? ⟨g32, 3, none⟩ = some (.string a2) := (blk_cell BKg32.out 3).trans rfl
    have hz114 : w99.cell? ⟨g32, 4, none⟩ = some (.slice A21 t17.length cp21) := (blk_cell BKg32.out 4).trans rfl
    have hf115 := blk_frozen BKg32.out 0
    have hf116 := blk_frozen BKg32.out 1
    have hf117 := blk_frozen BKg32.out 2
    have hf118 := blk_frozen BKg32.out 3
    have hf119 := blk_frozen BKg32.out 4
    have H := HH.out
    simp only [Option.some.injEq, Prod.mk.injEq] at H
    obtain ⟨rfl, rfl, rfl, rfl, rfl, rfl⟩ := H
    clear HH
    go_wp2
    refine bodyPost_ret (results_ct rfl _ _ g1 28 #[.int .i64 t13, .bool t14, .int .i64 t15, .string a2, .slice A21 t17.length cp21] (0, 0) _ rfl BKg1.out Try.underlying28 rfl (by kernel_rfl)) rfl ?_
    exact ⟨_, _, by first | rfl | (simp; done) | (simp [*]; done), HL21.out, (Kd.F_mono (ok := (fun k_ => (w.heap.size ≤ k_) ∧ k_ ≠ g1 ∧ k_ ≠ g32)) HF21.out (fun k_ hk_ => hk_.1)), HB.out⟩
  · have H := HH.out
    rw [if_neg c75] at H
    replace HH := Aside0.mk H
    clear H
    have hk120 : (t18 == 0) = false := beq_eq_false_iff_ne.mpr c75
    have hk121 : (t18 != 0) = true := bne_iff_ne.mpr c75
    clear c75
    go_wp2_with (((with_reducible refine gate_store (t := 28) (p := 6) rfl ?_); (try (refine gate_guard (by rfl) ?_; dsimp only)); refine MW.ev_store #[.int .i64 t13, .bool t14, .int .i64 t15, .string t16, .slice A21 t17.length cp21] rfl rfl rfl rfl (cs := #[.int .i64 0, .bool false, .int .i64 0, .string (⟨#[]⟩ : ByteArray), .slice none 0 0]) (ty := 28) BKg1.out [.int .i64 t13, .bool t14, .int .i64 t15, .string t16, .slice A21 t17.length cp21] rfl (by kernel_rfl) (by simp) (by simp [Value.oneCell']) rfl ?_; intro w122 hbk hg); replace hbk := Aside0.mk hbk; refine stop_ ?_)
    refine Stop.go ?_
    replace hbk := hbk.out
    replace HF21 := Aside0.mk (Kd.F_grown (ok := (fun k_ => (w.heap.size ≤ k_) ∧ k_ ≠ g1 ∧ k_ ≠ g32)) HF21.out hg (fun k_ hk_ he_ => hk_.2.1 (Option.some.inj he_)))
    replace BKg32 := Aside0.mk (blk_grown (o := .cells #[.int .i64 t13, .bool t14, .int .i64 t15, .string t16, .slice A21 t17.length cp21] 28 (0, 0)) BKg32.out hg (fun he_ => NEg32_g1.out (Option.some.inj he_)))
    replace HB := Aside0.mk (Below.grown HB.out hg (below_size HB.out) (fun k_ hk_ => by injection hk_ with hk_; rw [← hk_]; exact GEg1.out))
    replace BKg1 := Aside0.mk hbk
    clear hg hbk
    clear hz55 hz56 hz57 hz58 hz59 hf60 hf61 hf62 hf63 hf64 hz65 hz66 hz67 hz68 hz69 hf70 hf71 hf72 hf73 hf74
    have hz123 : w122.cell? ⟨g1, 0, none⟩ = some (.int .i64 t13) := (blk_cell BKg1.out 0).trans rfl
    have hz124 : w122.cell? ⟨g1, 1, none⟩ = some (.bool t14) := (blk_cell BKg1.out 1).trans rfl
    have hz125 : w122.cell? ⟨g1, 2, none⟩ = some (.int .i64 t15) := (blk_cell BKg1.out 2).trans rfl
    have hz126 : w122.cell? ⟨g1, 3, none⟩ = some (.string t16) := (blk_cell BKg1.out 3).trans rfl
    have hz127 : w122.cell? ⟨g1, 4, none⟩ = some (.slice A21 t17.length cp21) := (blk_cell BKg1.out 4).trans rfl
    have hf128 := blk_frozen BKg1.out 0
    have hf129 := blk_frozen BKg1.out 1
    have hf130 := blk_frozen BKg1.out 2
    have hf131 := blk_frozen BKg1.out 3
    have hf132 := blk_frozen BKg1.out 4
    have hz133 : w122.cell? ⟨g32, 0, none⟩ = some (.int .i64 t13) := (blk_cell BKg32.out 0).trans rfl
    have hz134 : w122.cell? ⟨g32, 1, none⟩ = some (.bool t14) := (blk_cell BKg32.out 1).trans rfl
    have hz135 : w122.cell? ⟨g32, 2, none⟩ = some (.int .i64 t15) := (blk_cell BKg32.out 2).trans rfl
    have hz136 : w122.cell? ⟨g32, 3, none⟩ = some (.string t16) := (blk_cell BKg32.out 3).trans rfl
    have hz137 : w122.cell? ⟨g32, 4, none⟩ = some (.slice A21 t17.length cp21) := (blk_cell BKg32.out 4).trans rfl
    have hf138 := blk_frozen BKg32.out 0
    have hf139 := blk_frozen BKg32.out 1
    have hf140 := blk_frozen BKg32.out 2
    have hf141 := blk_frozen BKg32.out 3
    have hf142 := blk_frozen BKg32.out 4
    have H := HH.out
    simp only [Option.some.injEq, Prod.mk.injEq] at H
    obtain ⟨rfl, rfl, rfl, rfl, rfl, rfl⟩ := H
    clear HH
    go_wp2
    refine bodyPost_ret (results_ct rfl _ _ g1 28 #[.int .i64 t13, .bool t14, .int .i64 t15, .string t16, .slice A21 t17.length cp21] (0, 0) _ rfl BKg1.out Try.underlying28 rfl (by kernel_rfl)) rfl ?_
    exact ⟨_, _, by first | rfl | (simp; done) | (simp [*]; done), HL21.out, (Kd.F_mono (ok := (fun k_ => (w.heap.size ≤ k_) ∧ k_ ≠ g1 ∧ k_ ≠ g32)) HF21.out (fun k_ hk_ => hk_.1)), HB.out⟩

end Go.Proofs.Ytliackbiljhioaa.GA
