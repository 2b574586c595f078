-- written by wip/gen.py, a program of this session
import Derived.Test.YtliackbiljhioaaGA0
import Derived.Test.YtliackbiljhioaaGAF32
import Derived.Test.YtliackbiljhioaaGAF37
namespace Go.Proofs.Ytliackbiljhioaa.GA
open Go.RowKit Go.Proofs.Ytliackbiljhioaa Go.Proofs.Ytliackbiljhioaa.MW Go.Proofs.YtliackbiljhioaaW.PrintWords Go.Proofs.YtliackbiljhioaaW.PrintLast Go.Proofs.YtliackbiljhioaaW.PrintMore
attribute [local go_sem] max2_int min2_int max_two min_two
set_option linter.unusedVariables false
set_option linter.unusedSimpArgs false

/-! ### toponymref16_Int: function 16 -/
def toponymref16_Int.f (k : Nat) (a0 : Int) (a1 : Int) (a2 : Int) : Option (Int × Bool × Int × ByteArray × (List (S28)) × Int) := (toponymref16_Bytes.f k a2).bind fun t13 => ((toponymref16_sort.f a0 a1).bind fun bt26 => (if bt26.2.2.2.2.2 = 0 then (if t13.toList = ([] : List UInt8) then (some (0, false, 0, (⟨#[]⟩ : ByteArray), ([] : List (S28)), 2)) else (some (bt26.1, bt26.2.1, bt26.2.2.1, t13, bt26.2.2.2.2.1, 0))) else (some (0, false, 0, (⟨#[]⟩ : ByteArray), ([] : List (S28)), 2))))
theorem toponymref16_Int.mono : ∀ a0_ a1_ a2_ k, LeO (toponymref16_Int.f k a0_ a1_ a2_) (toponymref16_Int.f (k + 1) a0_ a1_ a2_) := by
  intro a0_ a1_ a2_ k
  unfold toponymref16_Int.f
  repeat' first
      | (with_reducible exact toponymref16_Bytes.mono _ _)
      | (with_reducible exact LeO.refl _)
      | (with_reducible exact LeO.none _)
      | (with_reducible refine LeO.ite ?_ ?_)
      | (with_reducible refine LeO.bind ?_ (fun _ => ?_))
      | exact toponymref16_Bytes.mono _ _
      | exact LeO.none _
      | refine LeO.ite ?_ ?_
      | refine LeO.bind ?_ (fun _ => ?_)
set_option maxHeartbeats 8000000 in
set_option maxRecDepth 100000 in
theorem toponymref16_Int.calls (k : Nat) (a0 : Int) (a1 : Int) (a2 : Int) (r1 : Int) (r2 : Bool) (r3 : Int) (r4 : ByteArray) (r5 : List (S28)) (r6 : Int) (w : World) (h : toponymref16_Int.f k a0 a1 a2 = some (r1, r2, r3, r4, r5, r6)) :
    Calls Try.prog 16 #[.int .i64 a0, .int .i64 a1, .int .i64 a2] w (fun e w' => ∃ (A4_ : Option Addr) (c4_ : Nat), e = .returned (.tuple #[.agg #[.int .i64 r1, .bool r2, .int .i64 r3, .string r4, .slice A4_ r5.length c4_], .int .i64 r6]) ∧ r5.length ≤ c4_ ∧ Kd.F k28 w' (fun k_ => w.heap.size ≤ k_) A4_ r5.length r5 ∧ Below w.heap.size w w') := by
  have HH := Aside0.mk (show ((toponymref16_Bytes.f k a2).bind fun t13 => ((toponymref16_sort.f a0 a1).bind fun bt26 => (if bt26.2.2.2.2.2 = 0 then (if t13.toList = ([] : List UInt8) then (some (0, false, 0, (⟨#[]⟩ : ByteArray), ([] : List (S28)), 2)) else (some (bt26.1, bt26.2.1, bt26.2.2.1, t13, bt26.2.2.2.2.1, 0))) else (some (0, false, 0, (⟨#[]⟩ : ByteArray), ([] : List (S28)), 2))))) = some (r1, r2, r3, r4, r5, r6) from h)
  clear h
  have HB := Aside0.mk (Below.refl w.heap.size w)
  have hu28 := Try.underlying28
  go_enter Try.func16, Try.ntmps16
  go_wp2_with (((with_reducible refine gate_dst (N := 6) rfl ?_); (try (refine gate_guard (by rfl) ?_; dsimp only)); refine box_event ?hg (N := 6) ?hd (cs := #[.int .i64 0, .bool false, .int .i64 0, .string (⟨#[]⟩ : ByteArray), .slice none 0 0]) (t := 28) ?hr ?_; (case hd => rfl); (case hg => rfl); (case hr => first | (go_simp; done) | (go_simp; rfl)); intro g1 hg w2 hbox hb); replace hg := Aside0.mk hg; replace hbox := Aside0.mk hbox; refine stop_ ?_)
  refine Stop.go ?_
  replace hg := hg.out
  replace hbox := hbox.out
  have GEg1 := Aside0.mk (by rw [hg]; exact (below_size HB.out) : w.heap.size ≤ g1)
  replace HB := Aside0.mk (below_step HB.out hb)
  have BKg1 := Aside0.mk hbox
  clear hg hbox hb
  have hz3 : w2.cell? ⟨g1, 0, none⟩ = some (.int .i64 0) := (blk_cell BKg1.out 0).trans rfl
  have hz4 : w2.cell? ⟨g1, 1, none⟩ = some (.bool false) := (blk_cell BKg1.out 1).trans rfl
  have hz5 : w2.cell? ⟨g1, 2, none⟩ = some (.int .i64 0) := (blk_cell BKg1.out 2).trans rfl
  have hz6 : w2.cell? ⟨g1, 3, none⟩ = some (.string (⟨#[]⟩ : ByteArray)) := (blk_cell BKg1.out 3).trans rfl
  have hz7 : w2.cell? ⟨g1, 4, none⟩ = some (.slice none 0 0) := (blk_cell BKg1.out 4).trans rfl
  have hf8 := blk_frozen BKg1.out 0
  have hf9 := blk_frozen BKg1.out 1
  have hf10 := blk_frozen BKg1.out 2
  have hf11 := blk_frozen BKg1.out 3
  have hf12 := blk_frozen BKg1.out 4
  have H := HH.out
  replace H := Option.bind_eq_some_iff.mp H
  obtain ⟨t13, at_, H⟩ := H
  have At14 := Aside0.mk at_
  clear at_
  replace HH := Aside0.mk (show ((toponymref16_sort.f a0 a1).bind fun bt26 => (if bt26.2.2.2.2.2 = 0 then (if t13.toList = ([] : List UInt8) then (some (0, false, 0, (⟨#[]⟩ : ByteArray), ([] : List (S28)), 2)) else (some (bt26.1, bt26.2.1, bt26.2.2.1, t13, bt26.2.2.2.2.1, 0))) else (some (0, false, 0, (⟨#[]⟩ : ByteArray), ([] : List (S28)), 2)))) = some (r1, r2, r3, r4, r5, r6) from H)
  clear H
  go_wp2_with (((with_reducible refine gate_callee (f := 37) rfl ?_); (try (refine gate_guard (by rfl) ?_; dsimp only)); refine goesL_ (some 12) rfl rfl Try.func37 (by kernel_rfl) rfl #[.int .i64 a2] rfl (by (try simp only [List.map_toArray, List.map_cons, List.map_nil]); first | done | rfl | (simp only [List.length_drop, List.length_take]; rfl)) ?_; (with_reducible refine (toponymref16_Bytes.calls k  a2 t13 _  At14.out).mono ?_); rintro e w15 ⟨rfl, hb⟩; refine ⟨_, rfl, ?_⟩); refine stop_ ?_)
  refine Stop.go ?_
  replace BKg1 := Aside0.mk (blk_below (o := .cells #[.int .i64 0, .bool false, .int .i64 0, .string (⟨#[]⟩ : ByteArray), .slice none 0 0] 28 (0, 0)) BKg1.out hb)
  replace HB := Aside0.mk (below_step HB.out hb)
  clear hb
  clear hz3 hz4 hz5 hz6 hz7 hf8 hf9 hf10 hf11 hf12
  have hz16 : w15.cell? ⟨g1, 0, none⟩ = some (.int .i64 0) := (blk_cell BKg1.out 0).trans rfl
  have hz17 : w15.cell? ⟨g1, 1, none⟩ = some (.bool false) := (blk_cell BKg1.out 1).trans rfl
  have hz18 : w15.cell? ⟨g1, 2, none⟩ = some (.int .i64 0) := (blk_cell BKg1.out 2).trans rfl
  have hz19 : w15.cell? ⟨g1, 3, none⟩ = some (.string (⟨#[]⟩ : ByteArray)) := (blk_cell BKg1.out 3).trans rfl
  have hz20 : w15.cell? ⟨g1, 4, none⟩ = some (.slice none 0 0) := (blk_cell BKg1.out 4).trans rfl
  have hf21 := blk_frozen BKg1.out 0
  have hf22 := blk_frozen BKg1.out 1
  have hf23 := blk_frozen BKg1.out 2
  have hf24 := blk_frozen BKg1.out 3
  have hf25 := blk_frozen BKg1.out 4
  have H := HH.out
  replace H := Option.bind_eq_some_iff.mp H
  obtain ⟨⟨t26, t27, t28, t29, t30, t31⟩, at_, H⟩ := H
  have At32 := Aside0.mk at_
  clear at_
  replace HH := Aside0.mk (show (if t31 = 0 then (if t13.toList = ([] : List UInt8) then (some (0, false, 0, (⟨#[]⟩ : ByteArray), ([] : List (S28)), 2)) else (some (t26, t27, t28, t13, t30, 0))) else (some (0, false, 0, (⟨#[]⟩ : ByteArray), ([] : List (S28)), 2))) = some (r1, r2, r3, r4, r5, r6) from H)
  clear H
  go_wp2_with (((with_reducible refine gate_callee (f := 32) rfl ?_); (try (refine gate_guard (by rfl) ?_; dsimp only)); refine goesL_ (some 16) rfl rfl Try.func32 (by kernel_rfl) rfl #[.int .i64 a0, .int .i64 a1] rfl (by (try simp only [List.map_toArray, List.map_cons, List.map_nil]); first | done | rfl | (simp only [List.length_drop, List.length_take]; rfl)) ?_; (with_reducible refine (toponymref16_sort.calls  a0 a1 t26 t27 t28 t29 t30 t31 _  At32.out).mono ?_); rintro e w33 ⟨v34, rfl, hn34, hb⟩; refine ⟨_, rfl, ?_⟩); refine stop_ ?_)
  refine Stop.go ?_
  obtain ⟨A34, cp34, he_⟩ := Kd.N_slice hn34
  subst he_
  have HL34 := Aside0.mk (Kd.N_reads' hn34).2.1
  have HF34 := Aside0.mk (Kd.F_mono (Kd.N_F hn34) (fun k_ h_ => ⟨(Nat.le_trans (below_size HB.out) h_), Kd.freshB (o := .cells #[.int .i64 0, .bool false, .int .i64 0, .string (⟨#[]⟩ : ByteArray), .slice none 0 0] 28 (0, 0)) BKg1.out k_ h_⟩) : Kd.F k28 _ (fun k_ => (w.heap.size ≤ k_) ∧ k_ ≠ g1) _ _ _)
  clear hn34
  replace BKg1 := Aside0.mk (blk_below (o := .cells #[.int .i64 0, .bool false, .int .i64 0, .string (⟨#[]⟩ : ByteArray), .slice none 0 0] 28 (0, 0)) BKg1.out hb)
  replace HB := Aside0.mk (below_step HB.out hb)
  clear hb
  clear hz16 hz17 hz18 hz19 hz20 hf21 hf22 hf23 hf24 hf25
  have hz35 : w33.cell? ⟨g1, 0, none⟩ = some (.int .i64 0) := (blk_cell BKg1.out 0).trans rfl
  have hz36 : w33.cell? ⟨g1, 1, none⟩ = some (.bool false) := (blk_cell BKg1.out 1).trans rfl
  have hz37 : w33.cell? ⟨g1, 2, none⟩ = some (.int .i64 0) := (blk_cell BKg1.out 2).trans rfl
  have hz38 : w33.cell? ⟨g1, 3, none⟩ = some (.string (⟨#[]⟩ : ByteArray)) := (blk_cell BKg1.out 3).trans rfl
  have hz39 : w33.cell? ⟨g1, 4, none⟩ = some (.slice none 0 0) := (blk_cell BKg1.out 4).trans rfl
  have hf40 := blk_frozen BKg1.out 0
  have hf41 := blk_frozen BKg1.out 1
  have hf42 := blk_frozen BKg1.out 2
  have hf43 := blk_frozen BKg1.out 3
  have hf44 := blk_frozen BKg1.out 4
  go_wp2_with (((with_reducible refine gate_dst (N := 9) rfl ?_); (try (refine gate_guard (by rfl) ?_; dsimp only)); refine box_event ?hg (N := 9) ?hd (cs := #[.int .i64 0, .bool false, .int .i64 0, .string (⟨#[]⟩ : ByteArray), .slice none 0 0]) (t := 28) ?hr ?_; (case hd => rfl); (case hg => rfl); (case hr => first | (go_simp; done) | (go_simp; rfl)); intro g45 hg w46 hbox hb); replace hg := Aside0.mk hg; replace hbox := Aside0.mk hbox; refine stop_ ?_)
  refine Stop.go ?_
  replace hg := hg.out
  replace hbox := hbox.out
  have GEg45 := Aside0.mk (by rw [hg]; exact (below_size HB.out) : w.heap.size ≤ g45)
  replace HF34 := Aside0.mk (Kd.F_elderB HF34.out g45 (Nat.le_of_eq hg.symm))
  replace HF34 := Aside0.mk (Kd.F_mono HF34.out (fun k_ hk_ => ⟨hk_.1.1, hk_.1.2, hk_.2⟩) : Kd.F k28 _ (fun k_ => (w.heap.size ≤ k_) ∧ k_ ≠ g1 ∧ k_ ≠ g45) _ _ _)
  have NEg1_g45 := Aside0.mk (by rw [hg]; exact Nat.ne_of_lt (blk_lt (o := .cells #[.int .i64 0, .bool false, .int .i64 0, .string (⟨#[]⟩ : ByteArray), .slice none 0 0] 28 (0, 0)) BKg1.out) : g1 ≠ g45)
  have NEg45_g1 := Aside0.mk (Ne.symm NEg1_g45.out)
  replace HF34 := Aside0.mk (Kd.F_below HF34.out hb)
  replace BKg1 := Aside0.mk (blk_below (o := .cells #[.int .i64 0, .bool false, .int .i64 0, .string (⟨#[]⟩ : ByteArray), .slice none 0 0] 28 (0, 0)) BKg1.out hb)
  replace HB := Aside0.mk (below_step HB.out hb)
  have BKg45 := Aside0.mk hbox
  clear hg hbox hb
  clear hz35 hz36 hz37 hz38 hz39 hf40 hf41 hf42 hf43 hf44
  have hz47 : w46.cell? ⟨g1, 0, none⟩ = some (.int .i64 0) := (blk_cell BKg1.out 0).trans rfl
  have hz48 : w46.cell? ⟨g1, 1, none⟩ = some (.bool false) := (blk_cell BKg1.out 1).trans rfl
  have hz49 : w46.cell? ⟨g1, 2, none⟩ = some (.int .i64 0) := (blk_cell BKg1.out 2).trans rfl
  have hz50 : w46.cell? ⟨g1, 3, none⟩ = some (.string (⟨#[]⟩ : ByteArray)) := (blk_cell BKg1.out 3).trans rfl
  have hz51 : w46.cell? ⟨g1, 4, none⟩ = some (.slice none 0 0) := (blk_cell BKg1.out 4).trans rfl
  have hf52 := blk_frozen BKg1.out 0
  have hf53 := blk_frozen BKg1.out 1
  have hf54 := blk_frozen BKg1.out 2
  have hf55 := blk_frozen BKg1.out 3
  have hf56 := blk_frozen BKg1.out 4
  have hz57 : w46.cell? ⟨g45, 0, none⟩ = some (.int .i64 0) := (blk_cell BKg45.out 0).trans rfl
  have hz58 : w46.cell? ⟨g45, 1, none⟩ = some (.bool false) := (blk_cell BKg45.out 1).trans rfl
  have hz59 : w46.cell? ⟨g45, 2, none⟩ = some (.int .i64 0) := (blk_cell BKg45.out 2).trans rfl
  have hz60 : w46.cell? ⟨g45, 3, none⟩ = some (.string (⟨#[]⟩ : ByteArray)) := (blk_cell BKg45.out 3).trans rfl
  have hz61 : w46.cell? ⟨g45, 4, none⟩ = some (.slice none 0 0) := (blk_cell BKg45.out 4).trans rfl
  have hf62 := blk_frozen BKg45.out 0
  have hf63 := blk_frozen BKg45.out 1
  have hf64 := blk_frozen BKg45.out 2
  have hf65 := blk_frozen BKg45.out 3
  have hf66 := blk_frozen BKg45.out 4
  go_wp2_with (((with_reducible refine gate_store (t := 28) (p := 9) rfl ?_); (try (refine gate_guard (by rfl) ?_; dsimp only)); refine MW.ev_store #[.int .i64 t26, .bool t27, .int .i64 t28, .string t29, .slice A34 t30.length cp34] rfl rfl rfl rfl (cs := #[.int .i64 0, .bool false, .int .i64 0, .string (⟨#[]⟩ : ByteArray), .slice none 0 0]) (ty := 28) BKg45.out [.int .i64 t26, .bool t27, .int .i64 t28, .string t29, .slice A34 t30.length cp34] rfl (by kernel_rfl) (by simp) (by simp [Value.oneCell']) rfl ?_; intro w67 hbk hg); replace hbk := Aside0.mk hbk; refine stop_ ?_)
  refine Stop.go ?_
  replace hbk := hbk.out
  replace HF34 := Aside0.mk (Kd.F_grown (ok := (fun k_ => (w.heap.size ≤ k_) ∧ k_ ≠ g1 ∧ k_ ≠ g45)) HF34.out hg (fun k_ hk_ he_ => hk_.2.2 (Option.some.inj he_)))
  replace BKg1 := Aside0.mk (blk_grown (o := .cells #[.int .i64 0, .bool false, .int .i64 0, .string (⟨#[]⟩ : ByteArray), .slice none 0 0] 28 (0, 0)) BKg1.out hg (fun he_ => NEg1_g45.out (Option.some.inj he_)))
  replace HB := Aside0.mk (Below.grown HB.out hg (below_size HB.out) (fun k_ hk_ => by injection hk_ with hk_; rw [← hk_]; exact GEg45.out))
  replace BKg45 := Aside0.mk hbk
  clear hg hbk
  clear hz47 hz48 hz49 hz50 hz51 hf52 hf53 hf54 hf55 hf56 hz57 hz58 hz59 hz60 hz61 hf62 hf63 hf64 hf65 hf66
  have hz68 : w67.cell? ⟨g1, 0, none⟩ = some (.int .i64 0) := (blk_cell BKg1.out 0).trans rfl
  have hz69 : w67.cell? ⟨g1, 1, none⟩ = some (.bool false) := (blk_cell BKg1.out 1).trans rfl
  have hz70 : w67.cell? ⟨g1, 2, none⟩ = some (.int .i64 0) := (blk_cell BKg1.out 2).trans rfl
  have hz71 : w67.cell? ⟨g1, 3, none⟩ = some (.string (⟨#[]⟩ : ByteArray)) := (blk_cell BKg1.out 3).trans rfl
  have hz72 : w67.cell? ⟨g1, 4, none⟩ = some (.slice none 0 0) := (blk_cell BKg1.out 4).trans rfl
  have hf73 := blk_frozen BKg1.out 0
  have hf74 := blk_frozen BKg1.out 1
  have hf75 := blk_frozen BKg1.out 2
  have hf76 := blk_frozen BKg1.out 3
  have hf77 := blk_frozen BKg1.out 4
  have hz78 : w67.cell? ⟨g45, 0, none⟩ = some (.int .i64 t26) := (blk_cell BKg45.out 0).trans rfl
  have hz79 : w67.cell? ⟨g45, 1, none⟩ = some (.bool t27) := (blk_cell BKg45.out 1).trans rfl
  have hz80 : w67.cell? ⟨g45, 2, none⟩ = some (.int .i64 t28) := (blk_cell BKg45.out 2).trans rfl
  have hz81 : w67.cell? ⟨g45, 3, none⟩ = some (.string t29) := (blk_cell BKg45.out 3).trans rfl
  have hz82 : w67.cell? ⟨g45, 4, none⟩ = some (.slice A34 t30.length cp34) := (blk_cell BKg45.out 4).trans rfl
  have hf83 := blk_frozen BKg45.out 0
  have hf84 := blk_frozen BKg45.out 1
  have hf85 := blk_frozen BKg45.out 2
  have hf86 := blk_frozen BKg45.out 3
  have hf87 := blk_frozen BKg45.out 4
  by_cases c88 : t31 = 0
  · have H := HH.out
    rw [if_pos c88] at H
    replace HH := Aside0.mk H
    clear H
    have hk89 : (t31 == 0) = true := beq_iff_eq.mpr c88
    have hk90 : (t31 != 0) = false := bne_eq_false_iff_eq.mpr c88
    clear c88
    by_cases c91 : t13.toList = ([] : List UInt8)
    · have H := HH.out
      rw [if_pos c91] at H
      replace HH := Aside0.mk H
      clear H
      have hk92 : (t13.toList == ([] : List UInt8)) = true := beq_iff_eq.mpr c91
      have hk93 : (t13.toList != ([] : List UInt8)) = false := bne_eq_false_iff_eq.mpr c91
      clear c91
      go_wp2_with (((with_reducible refine gate_store (t := 28) (p := 6) rfl ?_); (try (refine gate_guard (by rfl) ?_; dsimp only)); refine MW.ev_store #[.int .i64 0, .bool false, .int .i64 0, .string (⟨#[]⟩ : ByteArray), .slice none 0 0] rfl rfl rfl rfl (cs := #[.int .i64 0, .bool false, .int .i64 0, .string (⟨#[]⟩ : ByteArray), .slice none 0 0]) (ty := 28) BKg1.out [.int .i64 0, .bool false, .int .i64 0, .string (⟨#[]⟩ : ByteArray), .slice none 0 0] rfl (by kernel_rfl) (by simp) (by simp [Value.oneCell']) rfl ?_; intro w94 hbk hg); replace hbk := Aside0.mk hbk; refine stop_ ?_)
      refine Stop.go ?_
      replace hbk := hbk.out
      replace HF34 := Aside0.mk (Kd.F_grown (ok := (fun k_ => (w.heap.size ≤ k_) ∧ k_ ≠ g1 ∧ k_ ≠ g45)) HF34.out hg (fun k_ hk_ he_ => hk_.2.1 (Option.some.inj he_)))
      replace BKg45 := Aside0.mk (blk_grown (o := .cells #[.int .i64 t26, .bool t27, .int .i64 t28, .string t29, .slice A34 t30.length cp34] 28 (0, 0)) BKg45.out hg (fun he_ => NEg45_g1.out (Option.some.inj he_)))
      replace HB := Aside0.mk (Below.grown HB.out hg (below_size HB.out) (fun k_ hk_ => by injection hk_ with hk_; rw [← hk_]; exact GEg1.out))
      replace BKg1 := Aside0.mk hbk
      clear hg hbk
      clear hz68 hz69 hz70 hz71 hz72 hf73 hf74 hf75 hf76 hf77 hz78 hz79 hz80 hz81 hz82 hf83 hf84 hf85 hf86 hf87
      have hz95 : w94.cell? ⟨g1, 0, none⟩ = some (.int .i64 0) := (blk_cell BKg1.out 0).trans rfl
      have hz96 : w94.cell? ⟨g1, 1, none⟩ = some (.bool false) := (blk_cell BKg1.out 1).trans rfl
      have hz97 : w94.cell? ⟨g1, 2, none⟩ = some (.int .i64 0) := (blk_cell BKg1.out 2).trans rfl
      have hz98 : w94.cell? ⟨g1, 3, none⟩ = some (.string (⟨#[]⟩ : ByteArray)) := (blk_cell BKg1.out 3).trans rfl
      have hz99 : w94.cell? ⟨g1, 4, none⟩ = some (.slice none 0 0) := (blk_cell BKg1.out 4).trans rfl
      have hf100 := blk_frozen BKg1.out 0
      have hf101 := blk_frozen BKg1.out 1
      have hf102 := blk_frozen BKg1.out 2
      have hf103 := blk_frozen BKg1.out 3
      have hf104 := blk_frozen BKg1.out 4
      have hz105 : w94.cell? ⟨g45, 0, none⟩ = some (.int .i64 t26) := (blk_cell BKg45.out 0).trans rfl
      have hz106 : w94.cell? ⟨g45, 1, none⟩ = some (.bool t27) := (blk_cell BKg45.out 1).trans rfl
      have hz107 : w94.cell? ⟨g45, 2, none⟩ = some (.int .i64 t28) := (blk_cell BKg45.out 2).trans rfl
      have hz108 : w94.cell? ⟨g45, 3, none⟩ = some (.string t29) := (blk_cell BKg45.out 3).trans rfl
      have hz109 : w94.cell? ⟨g45, 4, none⟩ = some (.slice A34 t30.length cp34) := (blk_cell BKg45.out 4).trans rfl
      have hf110 := blk_frozen BKg45.out 0
      have hf111 := blk_frozen BKg45.out 1
      have hf112 := blk_frozen BKg45.out 2
      have hf113 := blk_frozen BKg45.out 3
      have hf114 := blk_frozen BKg45.out 4
      have H := HH.out
      simp only [Option.some.injEq, Prod.mk.injEq] at H
      obtain ⟨rfl, rfl, rfl, rfl, rfl, rfl⟩ := H
      clear HH
      go_wp2
      refine bodyPost_ret (results_ct rfl _ _ g1 28 #[.int .i64 0, .bool false, .int .i64 0, .string (⟨#[]⟩ : ByteArray), .slice none 0 0] (0, 0) _ rfl BKg1.out Try.underlying28 rfl (by kernel_rfl)) rfl ?_
      exact ⟨none, 0, by first | rfl | (simp; done) | (simp [*]; done), (Nat.le_refl _), (Kd.F_nil _ _ _), HB.out⟩
    · have H := HH.out
      rw [if_neg c91] at H
      replace HH := Aside0.mk H
      clear H
      have hk115 : (t13.toList == ([] : List UInt8)) = false := beq_eq_false_iff_ne.mpr c91
      have hk116 : (t13.toList != ([] : List UInt8)) = true := bne_iff_ne.mpr c91
      clear c91
      go_wp2_with (((with_reducible refine gate_store (t := 9) (p := 27) rfl ?_); (try (refine gate_guard (by rfl) ?_; dsimp only)); refine MW.ev_store #[.int .i64 t26, .bool t27, .int .i64 t28, .string t13, .slice A34 t30.length cp34] rfl rfl rfl rfl (cs := #[.int .i64 t26, .bool t27, .int .i64 t28, .string t29, .slice A34 t30.length cp34]) (ty := 28) BKg45.out [.string t13] rfl (by kernel_rfl) (by simp) (by simp [Value.oneCell']) rfl ?_; intro w117 hbk hg); replace hbk := Aside0.mk hbk; refine stop_ ?_)
      refine Stop.go ?_
      replace hbk := hbk.out
      replace HF34 := Aside0.mk (Kd.F_grown (ok := (fun k_ => (w.heap.size ≤ k_) ∧ k_ ≠ g1 ∧ k_ ≠ g45)) HF34.out hg (fun k_ hk_ he_ => hk_.2.2 (Option.some.inj he_)))
      replace BKg1 := Aside0.mk (blk_grown (o := .cells #[.int .i64 0, .bool false, .int .i64 0, .string (⟨#[]⟩ : ByteArray), .slice none 0 0] 28 (0, 0)) BKg1.out hg (fun he_ => NEg1_g45.out (Option.some.inj he_)))
      replace HB := Aside0.mk (Below.grown HB.out hg (below_size HB.out) (fun k_ hk_ => by injection hk_ with hk_; rw [← hk_]; exact GEg45.out))
      replace BKg45 := Aside0.mk hbk
      clear hg hbk
      clear hz68 hz69 hz70 hz71 hz72 hf73 hf74 hf75 hf76 hf77 hz78 hz79 hz80 hz81 hz82 hf83 hf84 hf85 hf86 hf87
      have hz118 : w117.cell? ⟨g1, 0, none⟩ = some (.int .i64 0) := (blk_cell BKg1.out 0).trans rfl
      have hz119 : w117.cell? ⟨g1, 1, none⟩ = some (.bool false) := (blk_cell BKg1.out 1).trans rfl
      have hz120 : w117.cell? ⟨g1, 2, none⟩ = some (.int .i64 0) := (blk_cell BKg1.out 2).trans rfl
      have hz121 : w117.cell? ⟨g1, 3, none⟩ = some (.string (⟨#[]⟩ : ByteArray)) := (blk_cell BKg1.out 3).trans rfl
      have hz122 : w117.cell? ⟨g1, 4, none⟩ = some (.slice none 0 0) := (blk_cell BKg1.out 4).trans rfl
      have hf123 := blk_frozen BKg1.out 0
      have hf124 := blk_frozen BKg1.out 1
      have hf125 := blk_frozen BKg1.out 2
      have hf126 := blk_frozen BKg1.out 3
      have hf127 := blk_frozen BKg1.out 4
      have hz128 : w117.cell? ⟨g45, 0, none⟩ = some (.int .i64 t26) := (blk_cell BKg45.out 0).trans rfl
      have hz129 : w117.cell? ⟨g45, 1, none⟩ = some (.bool t27) := (blk_cell BKg45.out 1).trans rfl
      have hz130 : w117.cell? ⟨g45, 2, none⟩ = some (.int .i64 t28) := (blk_cell BKg45.out 2).trans rfl
      have hz131 : w117.cell? ⟨g45, 3, none⟩ = some (.string t13) := (blk_cell BKg45.out 3).trans rfl
      have hz132 : w117.cell? ⟨g45, 4, none⟩ = some (.slice A34 t30.length cp34) := (blk_cell BKg45.out 4).trans rfl
      have hf133 := blk_frozen BKg45.out 0
      have hf134 := blk_frozen BKg45.out 1
      have hf135 := blk_frozen BKg45.out 2
      have hf136 := blk_frozen BKg45.out 3
      have hf137 := blk_frozen BKg45.out 4
      go_wp2_with (((with_reducible refine gate_store (t := 28) (p := 6) rfl ?_); (try (refine gate_guard (by rfl) ?_; dsimp only)); refine MW.ev_store #[.int .i64 t26, .bool t27, .int .i64 t28, .string t13, .slice A34 t30.length cp34] rfl rfl rfl rfl (cs := #[.int .i64 0, .bool false, .int .i64 0, .string (⟨#[]⟩ : ByteArray), .slice none 0 0]) (ty := 28) BKg1.out [.int .i64 t26, .bool t27, .int .i64 t28, .string t13, .slice A34 t30.length cp34] rfl (by kernel_rfl) (by simp) (by simp [Value.oneCell']) rfl ?_; intro w138 hbk hg); replace hbk := Aside0.mk hbk; refine stop_ ?_)
      refine Stop.go ?_
      replace hbk := hbk.out
      replace HF34 := Aside0.mk (Kd.F_grown (ok := (fun k_ => (w.heap.size ≤ k_) ∧ k_ ≠ g1 ∧ k_ ≠ g45)) HF34.out hg (fun k_ hk_ he_ => hk_.2.1 (Option.some.inj he_)))
      replace BKg45 := Aside0.mk (blk_grown (o := .cells #[.int .i64 t26, .bool t27, .int .i64 t28, .string t13, .slice A34 t30.length cp34] 28 (0, 0)) BKg45.out hg (fun he_ => NEg45_g1.out (Option.some.inj he_)))
      replace HB := Aside0.mk (Below.grown HB.out hg (below_size HB.out) (fun k_ hk_ => by injection hk_ with hk_; rw [← hk_]; exact GEg1.out))
      replace BKg1 := Aside0.mk hbk
      clear hg hbk
      clear hz118 hz119 hz120 hz121 hz122 hf123 hf124 hf125 hf126 hf127 hz128 hz129 hz130 hz131 hz132 hf133 hf134 hf135 hf136 hf137
      have hz139 : w138.cell? ⟨g1, 0, none⟩ = some (.int .i64 t26) := (blk_cell BKg1.out 0).trans rfl
      have hz140 : w138.cell? ⟨g1, 1, none⟩ = some (.bool t27) := (blk_cell BKg1.out 1).trans rfl
      have hz141 : w138.cell? ⟨g1, 2, none⟩ = some (.int .i64 t28) := (blk_cell BKg1.out 2).trans rfl
      have hz142 : w138.cell? ⟨g1, 3, none⟩ = some (.string t13) := (blk_cell BKg1.out 3).trans rfl
      have hz143 : w138.cell? ⟨g1, 4, none⟩ = some (.slice A34 t30.length cp34) := (blk_cell BKg1.out 4).trans rfl
      have hf144 := blk_frozen BKg1.out 0
      have hf145 := blk_frozen BKg1.out 1
      have hf146 := blk_frozen BKg1.out 2
      have hf147 := blk_frozen BKg1.out 3
      have hf148 := blk_frozen BKg1.out 4
      have hz149 : w138.cell? ⟨g45, 0, none⟩ = some (.int .i64 t26) := (blk_cell BKg45.out 0).trans rfl
      have hz150 : w138.cell? ⟨g45, 1, none⟩ = some (.bool t27) := (blk_cell BKg45.out 1).trans rfl
      have hz151 : w138.cell? ⟨g45, 2, none⟩ = some (.int .i64 t28) := (blk_cell BKg45.out 2).trans rfl
      have hz152 : w138.cell? ⟨g45, 3, none⟩ = some (.string t13) := (blk_cell BKg45.out 3).trans rfl
      have hz153 : w138.cell? ⟨g45, 4, none⟩ = some (.slice A34 t30.length cp34) := (blk_cell BKg45.out 4).trans rfl
      have hf154 := blk_frozen BKg45.out 0
      have hf155 := blk_frozen BKg45.out 1
      have hf156 := blk_frozen BKg45.out 2
      have hf157 := blk_frozen BKg45.out 3
      have hf158 := blk_frozen BKg45.out 4
      have H := HH.out
      simp only [Option.some.injEq, Prod.mk.injEq] at H
      obtain ⟨rfl, rfl, rfl, rfl, rfl, rfl⟩ := H
      clear HH
      go_wp2
      refine bodyPost_ret (results_ct rfl _ _ g1 28 #[.int .i64 t26, .bool t27, .int .i64 t28, .string t13, .slice A34 t30.length cp34] (0, 0) _ rfl BKg1.out Try.underlying28 rfl (by kernel_rfl)) rfl ?_
      exact ⟨_, _, by first | rfl | (simp; done) | (simp [*]; done), HL34.out, (Kd.F_mono (ok := (fun k_ => (w.heap.size ≤ k_) ∧ k_ ≠ g1 ∧ k_ ≠ g45)) HF34.out (fun k_ hk_ => hk_.1)), HB.out⟩
  · have H := HH.out
    rw [if_neg c88] at H
    replace HH := Aside0.mk H
    clear H
    have hk159 : (t31 == 0) = false := beq_eq_false_iff_ne.mpr c88
    have hk160 : (t31 != 0) = true := bne_iff_ne.mpr c88
    clear c88
    go_wp2_with (((with_reducible refine gate_store (t := 28) (p := 6) rfl ?_); (try (refine gate_guard (by rfl) ?_; dsimp only)); refine MW.ev_store #[.int .i64 0, .bool false, .int .i64 0, .string (⟨#[]⟩ : ByteArray), .slice none 0 0] rfl rfl rfl rfl (cs := #[.int .i64 0, .bool false, .int .i64 0, .string (⟨#[]⟩ : ByteArray), .slice none 0 0]) (ty := 28) BKg1.out [.int .i64 0, .bool false, .int .i64 0, .string (⟨#[]⟩ : ByteArray), .slice none 0 0] rfl (by kernel_rfl) (by simp) (by simp [Value.oneCell']) rfl ?_; intro w161 hbk hg); replace hbk := Aside0.mk hbk; refine stop_ ?_)
    refine Stop.go ?_
    replace hbk := hbk.out
    replace HF34 := Aside0.mk (Kd.F_grown (ok := (fun k_ => (w.heap.size ≤ k_) ∧ k_ ≠ g1 ∧ k_ ≠ g45)) HF34.out hg (fun k_ hk_ he_ => hk_.2.1 (Option.some.inj he_)))
    replace BKg45 := Aside0.mk (blk_grown (o := .cells #[.int .i64 t26, .bool t27, .int .i64 t28, .string t29, .slice A34 t30.length cp34] 28 (0, 0)) BKg45.out hg (fun he_ => NEg45_g1.out (Option.some.inj he_)))
    replace HB := Aside0.mk (Below.grown HB.out hg (below_size HB.out) (fun k_ hk_ => by injection hk_ with hk_; rw [← hk_]; exact GEg1.out))
    replace BKg1 := Aside0.mk hbk
    clear hg hbk
    clear hz68 hz69 hz70 hz71 hz72 hf73 hf74 hf75 hf76 hf77 hz78 hz79 hz80 hz81 hz82 hf83 hf84 hf85 hf86 hf87
    have hz162 : w161.cell? ⟨g1, 0, none⟩ = some (.int .i64 0) := (blk_cell BKg1.out 0).trans rfl
    have hz163 : w161.cell? ⟨g1, 1, none⟩ = some (.bool false) := (blk_cell BKg1.out 1).trans rfl
    have hz164 : w161.cell? ⟨g1, 2, none⟩ = some (.int .i64 0) := (blk_cell BKg1.out 2).trans rfl
    have hz165 : w161.cell? ⟨g1, 3, none⟩ = some (.string (⟨#[]⟩ : ByteArray)) := (blk_cell BKg1.out 3).trans rfl
    have hz166 : w161.cell? ⟨g1, 4, none⟩ = some (.slice none 0 0) := (blk_cell BKg1.out 4).trans rfl
    have hf167 := blk_frozen BKg1.out 0
    have hf168 := blk_frozen BKg1.out 1
    have hf169 := blk_frozen BKg1.out 2
    have hf170 := blk_frozen BKg1.out 3
    have hf171 := blk_frozen BKg1.out 4
    have hz172 : w161.cell? ⟨g45, 0, none⟩ = some (.int .i64 t26) := (blk_cell BKg45.out 0).trans rfl
    have hz173 : w161.cell? ⟨g45, 1, none⟩ = some (.bool t27) := (blk_cell BKg45.out 1).trans rfl
    have hz174 : w161.cell? ⟨g45, 2, none⟩ = some (.int .i64 t28) := (blk_cell BKg45.out 2).trans rfl
    have hz175 : w161.cell? ⟨g45, 3, none⟩ = some (.string t29) := (blk_cell BKg45.out 3).trans rfl
    have hz176 : w161.cell? ⟨g45, 4, none⟩ = some (.slice A34 t30.length cp34) := (blk_cell BKg45.out 4).trans rfl
    have hf177 := blk_frozen BKg45.out 0
    have hf178 := blk_frozen BKg45.out 1
    have hf179 := blk_frozen BKg45.out 2
    have hf180 := blk_frozen BKg45.out 3
    have hf181 := blk_frozen BKg45.out 4
    have H := HH.out
    simp only [Option.some.injEq, Prod.mk.injEq] at H
    obtain ⟨rfl, rfl, rfl, rfl, rfl, rfl⟩ := H
    clear HH
    go_wp2
    refine bodyPost_ret (results_ct rfl _ _ g1 28 #[.int .i64 0, .bool false, .int .i64 0, .string (⟨#[]⟩ : ByteArray), .slice none 0 0] (0, 0) _ rfl BKg1.out Try.underlying28 rfl (by kernel_rfl)) rfl ?_
    exact ⟨none, 0, by first | rfl | (simp; done) | (simp [*]; done), (Nat.le_refl _), (Kd.F_nil _ _ _), HB.out⟩

end Go.Proofs.Ytliackbiljhioaa.GA
