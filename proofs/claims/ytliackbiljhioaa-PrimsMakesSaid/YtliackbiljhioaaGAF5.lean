-- written by wip/gen.py, a program of this session
import Derived.Test.YtliackbiljhioaaGA0
import Derived.Test.YtliackbiljhioaaGAF12
import Derived.Test.YtliackbiljhioaaGAF15
import Derived.Test.YtliackbiljhioaaGAF16
import Derived.Test.YtliackbiljhioaaGAF17
import Derived.Test.YtliackbiljhioaaGAF18
import Derived.Test.YtliackbiljhioaaGAF19
import Derived.Test.YtliackbiljhioaaGAF20
import Derived.Test.YtliackbiljhioaaGAF8
namespace Go.Proofs.Ytliackbiljhioaa.GA
open Go.RowKit Go.Proofs.Ytliackbiljhioaa Go.Proofs.Ytliackbiljhioaa.MW Go.Proofs.YtliackbiljhioaaW.PrintWords Go.Proofs.YtliackbiljhioaaW.PrintLast Go.Proofs.YtliackbiljhioaaW.PrintMore
attribute [local go_sem] max2_int min2_int max_two min_two
set_option linter.unusedVariables false
set_option linter.unusedSimpArgs false

/-! ### toponymlaw16_PrimsMakes: function 5 -/
def toponymlaw16_PrimsMakes.f (k : Nat) (a0_0 : Int) (a0_1 : Int) (a1 : Int) (a2 : ByteArray) : Option (Bool) := (prims_Int.f k a0_0 a0_1 a1).bind fun bt7 => ((toponymref16_Int.f k a0_0 a0_1 a1).bind fun bt51 => ((prims_Bool.f a0_0 a0_1 (decide (a1 > 0))).bind fun bt125 => ((toponymref16_Bool.f a0_0 a0_1 (decide (a1 > 0))).bind fun bt229 => ((prims_Text.f a0_0 a0_1 a2).bind fun bt363 => ((toponymref16_Text.f a0_0 a0_1 a2).bind fun bt527 => ((toponymref15_Same.f k bt7.1 bt7.2.1 bt7.2.2.1 bt7.2.2.2.1 bt7.2.2.2.2.1 bt51.1 bt51.2.1 bt51.2.2.1 bt51.2.2.2.1 bt51.2.2.2.2.1).bind fun t721 => (if t721 = true then (if bt7.2.2.2.2.2 = bt51.2.2.2.2.2 then ((toponymref15_Same.f k bt125.1 bt125.2.1 bt125.2.2.1 bt125.2.2.2.1 bt125.2.2.2.2.1 bt229.1 bt229.2.1 bt229.2.2.1 bt229.2.2.2.1 bt229.2.2.2.2.1).bind fun t792 => (if t792 = true then (if bt125.2.2.2.2.2 = bt229.2.2.2.2.2 then ((toponymref15_Same.f k bt363.1 bt363.2.1 bt363.2.2.1 bt363.2.2.2.1 bt363.2.2.2.2.1 bt527.1 bt527.2.1 bt527.2.2.1 bt527.2.2.2.1 bt527.2.2.2.2.1).bind fun t863 => (if t863 = true then (if bt363.2.2.2.2.2 = bt527.2.2.2.2.2 then ((toponymlaw16_awake.f k ).bind fun t934 => (some t934)) else (some false)) else (some false))) else (some false)) else (some false))) else (some false)) else (some false))))))))
theorem toponymlaw16_PrimsMakes.mono : ∀ a0_ a1_ a2_ a3_ k, LeO (toponymlaw16_PrimsMakes.f k a0_ a1_ a2_ a3_) (toponymlaw16_PrimsMakes.f (k + 1) a0_ a1_ a2_ a3_) := by
  intro a0_ a1_ a2_ a3_ k
  unfold toponymlaw16_PrimsMakes.f
  repeat' first
      | (with_reducible exact prims_Int.mono _ _ _ _)
      | (with_reducible exact toponymlaw16_awake.mono _)
      | (with_reducible exact toponymref15_Same.mono _ _ _ _ _ _ _ _ _ _ _)
      | (with_reducible exact toponymref16_Int.mono _ _ _ _)
      | (with_reducible exact LeO.refl _)
      | (with_reducible exact LeO.none _)
      | (with_reducible refine LeO.ite ?_ ?_)
      | (with_reducible refine LeO.bind ?_ (fun _ => ?_))
      | exact prims_Int.mono _ _ _ _
      | exact toponymlaw16_awake.mono _
      | exact toponymref15_Same.mono _ _ _ _ _ _ _ _ _ _ _
      | exact toponymref16_Int.mono _ _ _ _
      | exact LeO.none _
      | refine LeO.ite ?_ ?_
      | refine LeO.bind ?_ (fun _ => ?_)
set_option maxHeartbeats 8000000 in
set_option maxRecDepth 100000 in
theorem toponymlaw16_PrimsMakes.calls (k : Nat) (a0_0 : Int) (a0_1 : Int) (a1 : Int) (a2 : ByteArray) (r : Bool) (w : World) (h : toponymlaw16_PrimsMakes.f k a0_0 a0_1 a1 a2 = some r) :
    Calls Try.prog 5 #[.agg #[.int .i64 a0_0, .int .i64 a0_1], .int .i64 a1, .string a2] w (fun e w' => e = .returned (.bool r) ∧ Below w.heap.size w w') := by
  have HH := Aside0.mk (show ((prims_Int.f k a0_0 a0_1 a1).bind fun bt7 => ((toponymref16_Int.f k a0_0 a0_1 a1).bind fun bt51 => ((prims_Bool.f a0_0 a0_1 (decide (a1 > 0))).bind fun bt125 => ((toponymref16_Bool.f a0_0 a0_1 (decide (a1 > 0))).bind fun bt229 => ((prims_Text.f a0_0 a0_1 a2).bind fun bt363 => ((toponymref16_Text.f a0_0 a0_1 a2).bind fun bt527 => ((toponymref15_Same.f k bt7.1 bt7.2.1 bt7.2.2.1 bt7.2.2.2.1 bt7.2.2.2.2.1 bt51.1 bt51.2.1 bt51.2.2.1 bt51.2.2.2.1 bt51.2.2.2.2.1).bind fun t721 => (if t721 = true then (if bt7.2.2.2.2.2 = bt51.2.2.2.2.2 then ((toponymref15_Same.f k bt125.1 bt125.2.1 bt125.2.2.1 bt125.2.2.2.1 bt125.2.2.2.2.1 bt229.1 bt229.2.1 bt229.2.2.1 bt229.2.2.2.1 bt229.2.2.2.2.1).bind fun t792 => (if t792 = true then (if bt125.2.2.2.2.2 = bt229.2.2.2.2.2 then ((toponymref15_Same.f k bt363.1 bt363.2.1 bt363.2.2.1 bt363.2.2.2.1 bt363.2.2.2.2.1 bt527.1 bt527.2.1 bt527.2.2.1 bt527.2.2.2.1 bt527.2.2.2.2.1).bind fun t863 => (if t863 = true then (if bt363.2.2.2.2.2 = bt527.2.2.2.2.2 then ((toponymlaw16_awake.f k ).bind fun t934 => (some t934)) else (some false)) else (some false))) else (some false)) else (some false))) else (some false)) else (some false))))))))) = some r from h)
  clear h
  have HB := Aside0.mk (Below.refl w.heap.size w)
  have hu23 := Try.underlying23
  have hu28 := Try.underlying28
  go_enter Try.func5, Try.ntmps5
  go_wp2_with (((with_reducible refine gate_dst (N := 3) rfl ?_); (try (refine gate_guard (by rfl) ?_; dsimp only)); refine box_event ?hg (N := 3) ?hd (cs := #[.int .i64 a0_0, .int .i64 a0_1]) (t := 23) ?hr ?_; (case hd => rfl); (case hg => rfl); (case hr => first | (go_simp; done) | (go_simp; rfl)); intro g1 hg w2 hbox hb); replace hg := Aside0.mk hg; replace hbox := Aside0.mk hbox; refine stop_ ?_)
  refine Stop.go ?_
  replace hg := hg.out
  replace hbox := hbox.out
  have GEg1 := Aside0.mk (by rw [hg]; exact (below_size HB.out) : w.heap.size ≤ g1)
  replace HB := Aside0.mk (below_step HB.out hb)
  have BKg1 := Aside0.mk hbox
  clear hg hbox hb
  have hz3 : w2.cell? ⟨g1, 0, none⟩ = some (.int .i64 a0_0) := (blk_cell BKg1.out 0).trans rfl
  have hz4 : w2.cell? ⟨g1, 1, none⟩ = some (.int .i64 a0_1) := (blk_cell BKg1.out 1).trans rfl
  have hf5 := blk_frozen BKg1.out 0
  have hf6 := blk_frozen BKg1.out 1
  have H := HH.out
  replace H := Option.bind_eq_some_iff.mp H
  obtain ⟨⟨t7, t8, t9, t10, t11, t12⟩, at_, H⟩ := H
  have At13 := Aside0.mk at_
  clear at_
  replace HH := Aside0.mk (show ((toponymref16_Int.f k a0_0 a0_1 a1).bind fun bt51 => ((prims_Bool.f a0_0 a0_1 (decide (a1 > 0))).bind fun bt125 => ((toponymref16_Bool.f a0_0 a0_1 (decide (a1 > 0))).bind fun bt229 => ((prims_Text.f a0_0 a0_1 a2).bind fun bt363 => ((toponymref16_Text.f a0_0 a0_1 a2).bind fun bt527 => ((toponymref15_Same.f k t7 t8 t9 t10 t11 bt51.1 bt51.2.1 bt51.2.2.1 bt51.2.2.2.1 bt51.2.2.2.2.1).bind fun t721 => (if t721 = true then (if t12 = bt51.2.2.2.2.2 then ((toponymref15_Same.f k bt125.1 bt125.2.1 bt125.2.2.1 bt125.2.2.2.1 bt125.2.2.2.2.1 bt229.1 bt229.2.1 bt229.2.2.1 bt229.2.2.2.1 bt229.2.2.2.2.1).bind fun t792 => (if t792 = true then (if bt125.2.2.2.2.2 = bt229.2.2.2.2.2 then ((toponymref15_Same.f k bt363.1 bt363.2.1 bt363.2.2.1 bt363.2.2.2.1 bt363.2.2.2.2.1 bt527.1 bt527.2.1 bt527.2.2.1 bt527.2.2.2.1 bt527.2.2.2.2.1).bind fun t863 => (if t863 = true then (if bt363.2.2.2.2.2 = bt527.2.2.2.2.2 then ((toponymlaw16_awake.f k ).bind fun t934 => (some t934)) else (some false)) else (some false))) else (some false)) else (some false))) else (some false)) else (some false)))))))) = some r from H)
  clear H
  go_wp2_with (((with_reducible refine gate_callee (f := 15) rfl ?_); (try (refine gate_guard (by rfl) ?_; dsimp only)); refine goesL_ (some 25) rfl rfl Try.func15 (by kernel_rfl) rfl #[.int .i64 a0_0, .int .i64 a0_1, .int .i64 a1] rfl (by (try simp only [List.map_toArray, List.map_cons, List.map_nil]); first | done | rfl | (simp only [List.length_drop, List.length_take]; rfl)) ?_; (with_reducible refine (prims_Int.calls k  a0_0 a0_1 a1 t7 t8 t9 t10 t11 t12 _  At13.out).mono ?_); rintro e w14 ⟨v15, rfl, hn15, hb⟩; refine ⟨_, rfl, ?_⟩); refine stop_ ?_)
  refine Stop.go ?_
  obtain ⟨A15, cp15, he_⟩ := Kd.N_slice hn15
  subst he_
  have HL15 := Aside0.mk (Kd.N_reads' hn15).2.1
  have HF15 := Aside0.mk (Kd.F_mono (Kd.N_F hn15) (fun k_ h_ => ⟨(Nat.le_trans (below_size HB.out) h_), Kd.freshB (o := .cells #[.int .i64 a0_0, .int .i64 a0_1] 23 (0, 0)) BKg1.out k_ h_⟩) : Kd.F k28 _ (fun k_ => (w.heap.size ≤ k_) ∧ k_ ≠ g1) _ _ _)
  clear hn15
  replace BKg1 := Aside0.mk (blk_below (o := .cells #[.int .i64 a0_0, .int .i64 a0_1] 23 (0, 0)) BKg1.out hb)
  replace HB := Aside0.mk (below_step HB.out hb)
  clear hb
  clear hz3 hz4 hf5 hf6
  have hz16 : w14.cell? ⟨g1, 0, none⟩ = some (.int .i64 a0_0) := (blk_cell BKg1.out 0).trans rfl
  have hz17 : w14.cell? ⟨g1, 1, none⟩ = some (.int .i64 a0_1) := (blk_cell BKg1.out 1).trans rfl
  have hf18 := blk_frozen BKg1.out 0
  have hf19 := blk_frozen BKg1.out 1
  go_wp2_with (((with_reducible refine gate_dst (N := 7) rfl ?_); (try (refine gate_guard (by rfl) ?_; dsimp only)); refine box_event ?hg (N := 7) ?hd (cs := #[.int .i64 0, .bool false, .int .i64 0, .string (⟨#[]⟩ : ByteArray), .slice none 0 0]) (t := 28) ?hr ?_; (case hd => rfl); (case hg => rfl); (case hr => first | (go_simp; done) | (go_simp; rfl)); intro g20 hg w21 hbox hb); replace hg := Aside0.mk hg; replace hbox := Aside0.mk hbox; refine stop_ ?_)
  refine Stop.go ?_
  replace hg := hg.out
  replace hbox := hbox.out
  have GEg20 := Aside0.mk (by rw [hg]; exact (below_size HB.out) : w.heap.size ≤ g20)
  replace HF15 := Aside0.mk (Kd.F_elderB HF15.out g20 (Nat.le_of_eq hg.symm))
  replace HF15 := Aside0.mk (Kd.F_mono HF15.out (fun k_ hk_ => ⟨hk_.1.1, hk_.1.2, hk_.2⟩) : Kd.F k28 _ (fun k_ => (w.heap.size ≤ k_) ∧ k_ ≠ g1 ∧ k_ ≠ g20) _ _ _)
  have NEg1_g20 := Aside0.mk (by rw [hg]; exact Nat.ne_of_lt (blk_lt (o := .cells #[.int .i64 a0_0, .int .i64 a0_1] 23 (0, 0)) BKg1.out) : g1 ≠ g20)
  have NEg20_g1 := Aside0.mk (Ne.symm NEg1_g20.out)
  replace HF15 := Aside0.mk (Kd.F_below HF15.out hb)
  replace BKg1 := Aside0.mk (blk_below (o := .cells #[.int .i64 a0_0, .int .i64 a0_1] 23 (0, 0)) BKg1.out hb)
  replace HB := Aside0.mk (below_step HB.out hb)
  have BKg20 := Aside0.mk hbox
  clear hg hbox hb
  clear hz16 hz17 hf18 hf19
  have hz22 : w21.cell? ⟨g1, 0, none⟩ = some (.int .i64 a0_0) := (blk_cell BKg1.out 0).trans rfl
  have hz23 : w21.cell? ⟨g1, 1, none⟩ = some (.int .i64 a0_1) := (blk_cell BKg1.out 1).trans rfl
  have hf24 := blk_frozen BKg1.out 0
  have hf25 := blk_frozen BKg1.out 1
  have hz26 : w21.cell? ⟨g20, 0, none⟩ = some (.int .i64 0) := (blk_cell BKg20.out 0).trans rfl
  have hz27 : w21.cell? ⟨g20, 1, none⟩ = some (.bool false) := (blk_cell BKg20.out 1).trans rfl
  have hz28 : w21.cell? ⟨g20, 2, none⟩ = some (.int .i64 0) := (blk_cell BKg20.out 2).trans rfl
  have hz29 : w21.cell? ⟨g20, 3, none⟩ = some (.string (⟨#[]⟩ : ByteArray)) := (blk_cell BKg20.out 3).trans rfl
  have hz30 : w21.cell? ⟨g20, 4, none⟩ = some (.slice none 0 0) := (blk_cell BKg20.out 4).trans rfl
  have hf31 := blk_frozen BKg20.out 0
  have hf32 := blk_frozen BKg20.out 1
  have hf33 := blk_frozen BKg20.out 2
  have hf34 := blk_frozen BKg20.out 3
  have hf35 := blk_frozen BKg20.out 4
  go_wp2_with (((with_reducible refine gate_store (t := 28) (p := 7) rfl ?_); (try (refine gate_guard (by rfl) ?_; dsimp only)); refine MW.ev_store #[.int .i64 t7, .bool t8, .int .i64 t9, .string t10, .slice A15 t11.length cp15] rfl rfl rfl rfl (cs := #[.int .i64 0, .bool false, .int .i64 0, .string (⟨#[]⟩ : ByteArray), .slice none 0 0]) (ty := 28) BKg20.out [.int .i64 t7, .bool t8, .int .i64 t9, .string t10, .slice A15 t11.length cp15] rfl (by kernel_rfl) (by simp) (by simp [Value.oneCell']) rfl ?_; intro w36 hbk hg); replace hbk := Aside0.mk hbk; refine stop_ ?_)
  refine Stop.go ?_
  replace hbk := hbk.out
  replace HF15 := Aside0.mk (Kd.F_grown (ok := (fun k_ => (w.heap.size ≤ k_) ∧ k_ ≠ g1 ∧ k_ ≠ g20)) HF15.out hg (fun k_ hk_ he_ => hk_.2.2 (Option.some.inj he_)))
  replace BKg1 := Aside0.mk (blk_grown (o := .cells #[.int .i64 a0_0, .int .i64 a0_1] 23 (0, 0)) BKg1.out hg (fun he_ => NEg1_g20.out (Option.some.inj he_)))
  replace HB := Aside0.mk (Below.grown HB.out hg (below_size HB.out) (fun k_ hk_ => by injection hk_ with hk_; rw [← hk_]; exact GEg20.out))
  replace BKg20 := Aside0.mk hbk
  clear hg hbk
  clear hz22 hz23 hf24 hf25 hz26 hz27 hz28 hz29 hz30 hf31 hf32 hf33 hf34 hf35
  have hz37 : w36.cell? ⟨g1, 0, none⟩ = some (.int .i64 a0_0) := (blk_cell BKg1.out 0).trans rfl
  have hz38 : w36.cell? ⟨g1, 1, none⟩ = some (.int .i64 a0_1) := (blk_cell BKg1.out 1).trans rfl
  have hf39 := blk_frozen BKg1.out 0
  have hf40 := blk_frozen BKg1.out 1
  have hz41 : w36.cell? ⟨g20, 0, none⟩ = some (.int .i64 t7) := (blk_cell BKg20.out 0).trans rfl
  have hz42 : w36.cell? ⟨g20, 1, none⟩ = some (.bool t8) := (blk_cell BKg20.out 1).trans rfl
  have hz43 : w36.cell? ⟨g20, 2, none⟩ = some (.int .i64 t9) := (blk_cell BKg20.out 2).trans rfl
  have hz44 : w36.cell? ⟨g20, 3, none⟩ = some (.string t10) := (blk_cell BKg20.out 3).trans rfl
  have hz45 : w36.cell? ⟨g20, 4, none⟩ = some (.slice A15 t11.length cp15) := (blk_cell BKg20.out 4).trans rfl
  have hf46 := blk_frozen BKg20.out 0
  have hf47 := blk_frozen BKg20.out 1
  have hf48 := blk_frozen BKg20.out 2
  have hf49 := blk_frozen BKg20.out 3
  have hf50 := blk_frozen BKg20.out 4
  have H := HH.out
  replace H := Option.bind_eq_some_iff.mp H
  obtain ⟨⟨t51, t52, t53, t54, t55, t56⟩, at_, H⟩ := H
  have At57 := Aside0.mk at_
  clear at_
  replace HH := Aside0.mk (show ((prims_Bool.f a0_0 a0_1 (decide (a1 > 0))).bind fun bt125 => ((toponymref16_Bool.f a0_0 a0_1 (decide (a1 > 0))).bind fun bt229 => ((prims_Text.f a0_0 a0_1 a2).bind fun bt363 => ((toponymref16_Text.f a0_0 a0_1 a2).bind fun bt527 => ((toponymref15_Same.f k t7 t8 t9 t10 t11 t51 t52 t53 t54 t55).bind fun t721 => (if t721 = true then (if t12 = t56 then ((toponymref15_Same.f k bt125.1 bt125.2.1 bt125.2.2.1 bt125.2.2.2.1 bt125.2.2.2.2.1 bt229.1 bt229.2.1 bt229.2.2.1 bt229.2.2.2.1 bt229.2.2.2.2.1).bind fun t792 => (if t792 = true then (if bt125.2.2.2.2.2 = bt229.2.2.2.2.2 then ((toponymref15_Same.f k bt363.1 bt363.2.1 bt363.2.2.1 bt363.2.2.2.1 bt363.2.2.2.2.1 bt527.1 bt527.2.1 bt527.2.2.1 bt527.2.2.2.1 bt527.2.2.2.2.1).bind fun t863 => (if t863 = true then (if bt363.2.2.2.2.2 = bt527.2.2.2.2.2 then ((toponymlaw16_awake.f k ).bind fun t934 => (some t934)) else (some false)) else (some false))) else (some false)) else (some false))) else (some false)) else (some false))))))) = some r from H)
  clear H
  go_wp2_with (((with_reducible refine gate_callee (f := 16) rfl ?_); (try (refine gate_guard (by rfl) ?_; dsimp only)); refine goesL_ (some 34) rfl rfl Try.func16 (by kernel_rfl) rfl #[.int .i64 a0_0, .int .i64 a0_1, .int .i64 a1] rfl (by (try simp only [List.map_toArray, List.map_cons, List.map_nil]); first | done | rfl | (simp only [List.length_drop, List.length_take]; rfl)) ?_; (with_reducible refine (toponymref16_Int.calls k  a0_0 a0_1 a1 t51 t52 t53 t54 t55 t56 _  At57.out).mono ?_); rintro e w58 ⟨A59, cp59, rfl, hl59, hn59, hb⟩; refine ⟨_, rfl, ?_⟩); refine stop_ ?_)
  refine Stop.go ?_
  have HL59 := Aside0.mk hl59
  have HF59 := Aside0.mk (Kd.F_mono hn59 (fun k_ h_ => ⟨(Nat.le_trans (below_size HB.out) h_), Kd.freshB (o := .cells #[.int .i64 a0_0, .int .i64 a0_1] 23 (0, 0)) BKg1.out k_ h_, Kd.freshB (o := .cells #[.int .i64 t7, .bool t8, .int .i64 t9, .string t10, .slice A15 t11.length cp15] 28 (0, 0)) BKg20.out k_ h_⟩) : Kd.F k28 _ (fun k_ => (w.heap.size ≤ k_) ∧ k_ ≠ g1 ∧ k_ ≠ g20) _ _ _)
  clear hn59 hl59
  replace HF15 := Aside0.mk (Kd.F_below HF15.out hb)
  replace BKg1 := Aside0.mk (blk_below (o := .cells #[.int .i64 a0_0, .int .i64 a0_1] 23 (0, 0)) BKg1.out hb)
  replace BKg20 := Aside0.mk (blk_below (o := .cells #[.int .i64 t7, .bool t8, .int .i64 t9, .string t10, .slice A15 t11.length cp15] 28 (0, 0)) BKg20.out hb)
  replace HB := Aside0.mk (below_step HB.out hb)
  clear hb
  clear hz37 hz38 hf39 hf40 hz41 hz42 hz43 hz44 hz45 hf46 hf47 hf48 hf49 hf50
  have hz60 : w58.cell? ⟨g1, 0, none⟩ = some (.int .i64 a0_0) := (blk_cell BKg1.out 0).trans rfl
  have hz61 : w58.cell? ⟨g1, 1, none⟩ = some (.int .i64 a0_1) := (blk_cell BKg1.out 1).trans rfl
  have hf62 := blk_frozen BKg1.out 0
  have hf63 := blk_frozen BKg1.out 1
  have hz64 : w58.cell? ⟨g20, 0, none⟩ = some (.int .i64 t7) := (blk_cell BKg20.out 0).trans rfl
  have hz65 : w58.cell? ⟨g20, 1, none⟩ = some (.bool t8) := (blk_cell BKg20.out 1).trans rfl
  have hz66 : w58.cell? ⟨g20, 2, none⟩ = some (.int .i64 t9) := (blk_cell BKg20.out 2).trans rfl
  have hz67 : w58.cell? ⟨g20, 3, none⟩ = some (.string t10) := (blk_cell BKg20.out 3).trans rfl
  have hz68 : w58.cell? ⟨g20, 4, none⟩ = some (.slice A15 t11.length cp15) := (blk_cell BKg20.out 4).trans rfl
  have hf69 := blk_frozen BKg20.out 0
  have hf70 := blk_frozen BKg20.out 1
  have hf71 := blk_frozen BKg20.out 2
  have hf72 := blk_frozen BKg20.out 3
  have hf73 := blk_frozen BKg20.out 4
  go_wp2_with (((with_reducible refine gate_dst (N := 9) rfl ?_); (try (refine gate_guard (by rfl) ?_; dsimp only)); refine box_event ?hg (N := 9) ?hd (cs := #[.int .i64 0, .bool false, .int .i64 0, .string (⟨#[]⟩ : ByteArray), .slice none 0 0]) (t := 28) ?hr ?_; (case hd => rfl); (case hg => rfl); (case hr => first | (go_simp; done) | (go_simp; rfl)); intro g74 hg w75 hbox hb); replace hg := Aside0.mk hg; replace hbox := Aside0.mk hbox; refine stop_ ?_)
  refine Stop.go ?_
  replace hg := hg.out
  replace hbox := hbox.out
  have GEg74 := Aside0.mk (by rw [hg]; exact (below_size HB.out) : w.heap.size ≤ g74)
  replace HF15 := Aside0.mk (Kd.F_elderB HF15.out g74 (Nat.le_of_eq hg.symm))
  replace HF15 := Aside0.mk (Kd.F_mono HF15.out (fun k_ hk_ => ⟨hk_.1.1, hk_.1.2.1, hk_.1.2.2, hk_.2⟩) : Kd.F k28 _ (fun k_ => (w.heap.size ≤ k_) ∧ k_ ≠ g1 ∧ k_ ≠ g20 ∧ k_ ≠ g74) _ _ _)
  replace HF59 := Aside0.mk (Kd.F_elderB HF59.out g74 (Nat.le_of_eq hg.symm))
  replace HF59 := Aside0.mk (Kd.F_mono HF59.out (fun k_ hk_ => ⟨hk_.1.1, hk_.1.2.1, hk_.1.2.2, hk_.2⟩) : Kd.F k28 _ (fun k_ => (w.heap.size ≤ k_) ∧ k_ ≠ g1 ∧ k_ ≠ g20 ∧ k_ ≠ g74) _ _ _)
  have NEg1_g74 := Aside0.mk (by rw [hg]; exact Nat.ne_of_lt (blk_lt (o := .cells #[.int .i64 a0_0, .int .i64 a0_1] 23 (0, 0)) BKg1.out) : g1 ≠ g74)
  have NEg74_g1 := Aside0.mk (Ne.symm NEg1_g74.out)
  have NEg20_g74 := Aside0.mk (by rw [hg]; exact Nat.ne_of_lt (blk_lt (o := .cells #[.int .i64 t7, .bool t8, .int .i64 t9, .string t10, .slice A15 t11.length cp15] 28 (0, 0)) BKg20.out) : g20 ≠ g74)
  have NEg74_g20 := Aside0.mk (Ne.symm NEg20_g74.out)
  replace HF15 := Aside0.mk (Kd.F_below HF15.out hb)
  replace HF59 := Aside0.mk (Kd.F_below HF59.out hb)
  replace BKg1 := Aside0.mk (blk_below (o := .cells #[.int .i64 a0_0, .int .i64 a0_1] 23 (0, 0)) BKg1.out hb)
  replace BKg20 := Aside0.mk (blk_below (o := .cells #[.int .i64 t7, .bool t8, .int .i64 t9, .string t10, .slice A15 t11.length cp15] 28 (0, 0)) BKg20.out hb)
  replace HB := Aside0.mk (below_step HB.out hb)
  have BKg74 := Aside0.mk hbox
  clear hg hbox hb
  clear hz60 hz61 hf62 hf63 hz64 hz65 hz66 hz67 hz68 hf69 hf70 hf71 hf72 hf73
  have hz76 : w75.cell? ⟨g1, 0, none⟩ = some (.int .i64 a0_0) := (blk_cell BKg1.out 0).trans rfl
  have hz77 : w75.cell? ⟨g1, 1, none⟩ = some (.int .i64 a0_1) := (blk_cell BKg1.out 1).trans rfl
  have hf78 := blk_frozen BKg1.out 0
  have hf79 := blk_frozen BKg1.out 1
  have hz80 : w75.cell? ⟨g20, 0, none⟩ = some (.int .i64 t7) := (blk_cell BKg20.out 0).trans rfl
  have hz81 : w75.cell? ⟨g20, 1, none⟩ = some (.bool t8) := (blk_cell BKg20.out 1).trans rfl
  have hz82 : w75.cell? ⟨g20, 2, none⟩ = some (.int .i64 t9) := (blk_cell BKg20.out 2).trans rfl
  have hz83 : w75.cell? ⟨g20, 3, none⟩ = some (.string t10) := (blk_cell BKg20.out 3).trans rfl
  have hz84 : w75.cell? ⟨g20, 4, none⟩ = some (.slice A15 t11.length cp15) := (blk_cell BKg20.out 4).trans rfl
  have hf85 := blk_frozen BKg20.out 0
  have hf86 := blk_frozen BKg20.out 1
  have hf87 := blk_frozen BKg20.out 2
  have hf88 := blk_frozen BKg20.out 3
  have hf89 := blk_frozen BKg20.out 4
  have hz90 : w75.cell? ⟨g74, 0, none⟩ = some (.int .i64 0) := (blk_cell BKg74.out 0).trans rfl
  have hz91 : w75.cell? ⟨g74, 1, none⟩ = some (.bool false) := (blk_cell BKg74.out 1).trans rfl
  have hz92 : w75.cell? ⟨g74, 2, none⟩ = some (.int .i64 0) := (blk_cell BKg74.out 2).trans rfl
  have hz93 : w75.cell? ⟨g74, 3, none⟩ = some (.string (⟨#[]⟩ : ByteArray)) := (blk_cell BKg74.out 3).trans rfl
  have hz94 : w75.cell? ⟨g74, 4, none⟩ = some (.slice none 0 0) := (blk_cell BKg74.out 4).trans rfl
  have hf95 := blk_frozen BKg74.out 0
  have hf96 := blk_frozen BKg74.out 1
  have hf97 := blk_frozen BKg74.out 2
  have hf98 := blk_frozen BKg74.out 3
  have hf99 := blk_frozen BKg74.out 4
  go_wp2_with (((with_reducible refine gate_store (t := 28) (p := 9) rfl ?_); (try (refine gate_guard (by rfl) ?_; dsimp only)); refine MW.ev_store #[.int .i64 t51, .bool t52, .int .i64 t53, .string t54, .slice A59 t55.length cp59] rfl rfl rfl rfl (cs := #[.int .i64 0, .bool false, .int .i64 0, .string (⟨#[]⟩ : ByteArray), .slice none 0 0]) (ty := 28) BKg74.out [.int .i64 t51, .bool t52, .int .i64 t53, .string t54, .slice A59 t55.length cp59] rfl (by kernel_rfl) (by simp) (by simp [Value.oneCell']) rfl ?_; intro w100 hbk hg); replace hbk := Aside0.mk hbk; refine stop_ ?_)
  refine Stop.go ?_
  replace hbk := hbk.out
  replace HF15 := Aside0.mk (Kd.F_grown (ok := (fun k_ => (w.heap.size ≤ k_) ∧ k_ ≠ g1 ∧ k_ ≠ g20 ∧ k_ ≠ g74)) HF15.out hg (fun k_ hk_ he_ => hk_.2.2.2 (Option.some.inj he_)))
  replace HF59 := Aside0.mk (Kd.F_grown (ok := (fun k_ => (w.heap.size ≤ k_) ∧ k_ ≠ g1 ∧ k_ ≠ g20 ∧ k_ ≠ g74)) HF59.out hg (fun k_ hk_ he_ => hk_.2.2.2 (Option.some.inj he_)))
  replace BKg1 := Aside0.mk (blk_grown (o := .cells #[.int .i64 a0_0, .int .i64 a0_1] 23 (0, 0)) BKg1.out hg (fun he_ => NEg1_g74.out (Option.some.inj he_)))
  replace BKg20 := Aside0.mk (blk_grown (o := .cells #[.int .i64 t7, .bool t8, .int .i64 t9, .string t10, .slice A15 t11.length cp15] 28 (0, 0)) BKg20.out hg (fun he_ => NEg20_g74.out (Option.some.inj he_)))
  replace HB := Aside0.mk (Below.grown HB.out hg (below_size HB.out) (fun k_ hk_ => by injection hk_ with hk_; rw [← hk_]; exact GEg74.out))
  replace BKg74 := Aside0.mk hbk
  clear hg hbk
  clear hz76 hz77 hf78 hf79 hz80 hz81 hz82 hz83 hz84 hf85 hf86 hf87 hf88 hf89 hz90 hz91 hz92 hz93 hz94 hf95 hf96 hf97 hf98 hf99
  have hz101 : w100.cell? ⟨g1, 0, none⟩ = some (.int .i64 a0_0) := (blk_cell BKg1.out 0).trans rfl
  have hz102 : w100.cell? ⟨g1, 1, none⟩ = some (.int .i64 a0_1) := (blk_cell BKg1.out 1).trans rfl
  have hf103 := blk_frozen BKg1.out 0
  have hf104 := blk_frozen BKg1.out 1
  have hz105 : w100.cell? ⟨g20, 0, none⟩ = some (.int .i64 t7) := (blk_cell BKg20.out 0).trans rfl
  have hz106 : w100.cell? ⟨g20, 1, none⟩ = some (.bool t8) := (blk_cell BKg20.out 1).trans rfl
  have hz107 : w100.cell? ⟨g20, 2, none⟩ = some (.int .i64 t9) := (blk_cell BKg20.out 2).trans rfl
  have hz108 : w100.cell? ⟨g20, 3, none⟩ = some (.string t10) := (blk_cell BKg20.out 3).trans rfl
  have hz109 : w100.cell? ⟨g20, 4, none⟩ = some (.slice A15 t11.length cp15) := (blk_cell BKg20.out 4).trans rfl
  have hf110 := blk_frozen BKg20.out 0
  have hf111 := blk_frozen BKg20.out 1
  have hf112 := blk_frozen BKg20.out 2
  have hf113 := blk_frozen BKg20.out 3
  have hf114 := blk_frozen BKg20.out 4
  have hz115 : w100.cell? ⟨g74, 0, none⟩ = some (.int .i64 t51) := (blk_cell BKg74.out 0).trans rfl
  have hz116 : w100.cell? ⟨g74, 1, none⟩ = some (.bool t52) := (blk_cell BKg74.out 1).trans rfl
  have hz117 : w100.cell? ⟨g74, 2, none⟩ = some (.int .i64 t53) := (blk_cell BKg74.out 2).trans rfl
  have hz118 : w100.cell? ⟨g74, 3, none⟩ = some (.string t54) := (blk_cell BKg74.out 3).trans rfl
  have hz119 : w100.cell? ⟨g74, 4, none⟩ = some (.slice A59 t55.length cp59) := (blk_cell BKg74.out 4).trans rfl
  have hf120 := blk_frozen BKg74.out 0
  have hf121 := blk_frozen BKg74.out 1
  have hf122 := blk_frozen BKg74.out 2
  have hf123 := blk_frozen BKg74.out 3
  have hf124 := blk_frozen BKg74.out 4
  have H := HH.out
  replace H := Option.bind_eq_some_iff.mp H
  obtain ⟨⟨t125, t126, t127, t128, t129, t130⟩, at_, H⟩ := H
  have At131 := Aside0.mk at_
  clear at_
  replace HH := Aside0.mk (show ((toponymref16_Bool.f a0_0 a0_1 (decide (a1 > 0))).bind fun bt229 => ((prims_Text.f a0_0 a0_1 a2).bind fun bt363 => ((toponymref16_Text.f a0_0 a0_1 a2).bind fun bt527 => ((toponymref15_Same.f k t7 t8 t9 t10 t11 t51 t52 t53 t54 t55).bind fun t721 => (if t721 = true then (if t12 = t56 then ((toponymref15_Same.f k t125 t126 t127 t128 t129 bt229.1 bt229.2.1 bt229.2.2.1 bt229.2.2.2.1 bt229.2.2.2.2.1).bind fun t792 => (if t792 = true then (if t130 = bt229.2.2.2.2.2 then ((toponymref15_Same.f k bt363.1 bt363.2.1 bt363.2.2.1 bt363.2.2.2.1 bt363.2.2.2.2.1 bt527.1 bt527.2.1 bt527.2.2.1 bt527.2.2.2.1 bt527.2.2.2.2.1).bind fun t863 => (if t863 = true then (if bt363.2.2.2.2.2 = bt527.2.2.2.2.2 then ((toponymlaw16_awake.f k ).bind fun t934 => (some t934)) else (some false)) else (some false))) else (some false)) else (some false))) else (some false)) else (some false)))))) = some r from H)
  clear H
  go_wp2_with (((with_reducible refine gate_callee (f := 17) rfl ?_); (try (refine gate_guard (by rfl) ?_; dsimp only)); refine goesL_ (some 44) rfl rfl Try.func17 (by kernel_rfl) rfl #[.int .i64 a0_0, .int .i64 a0_1, .bool (decide (a1 > 0))] rfl (by (try simp only [List.map_toArray, List.map_cons, List.map_nil]); first | done | rfl | (simp only [List.length_drop, List.length_take]; rfl)) ?_; (with_reducible refine (prims_Bool.calls  a0_0 a0_1 (decide (a1 > 0)) t125 t126 t127 t128 t129 t130 _  At131.out).mono ?_); rintro e w132 ⟨v133, rfl, hn133, hb⟩; refine ⟨_, rfl, ?_⟩); refine stop_ ?_)
  refine Stop.go ?_
  obtain ⟨A133, cp133, he_⟩ := Kd.N_slice hn133
  subst he_
  have HL133 := Aside0.mk (Kd.N_reads' hn133).2.1
  have HF133 := Aside0.mk (Kd.F_mono (Kd.N_F hn133) (fun k_ h_ => ⟨(Nat.le_trans (below_size HB.out) h_), Kd.freshB (o := .cells #[.int .i64 a0_0, .int .i64 a0_1] 23 (0, 0)) BKg1.out k_ h_, Kd.freshB (o := .cells #[.int .i64 t7, .bool t8, .int .i64 t9, .string t10, .slice A15 t11.length cp15] 28 (0, 0)) BKg20.out k_ h_, Kd.freshB (o := .cells #[.int .i64 t51, .bool t52, .int .i64 t53, .string t54, .slice A59 t55.length cp59] 28 (0, 0)) BKg74.out k_ h_⟩) : Kd.F k28 _ (fun k_ => (w.heap.size ≤ k_) ∧ k_ ≠ g1 ∧ k_ ≠ g20 ∧ k_ ≠ g74) _ _ _)
  clear hn133
  replace HF15 := Aside0.mk (Kd.F_below HF15.out hb)
  replace HF59 := Aside0.mk (Kd.F_below HF59.out hb)
  replace BKg1 := Aside0.mk (blk_below (o := .cells #[.int .i64 a0_0, .int .i64 a0_1] 23 (0, 0)) BKg1.out hb)
  replace BKg20 := Aside0.mk (blk_below (o := .cells #[.int .i64 t7, .bool t8, .int .i64 t9, .string t10, .slice A15 t11.length cp15] 28 (0, 0)) BKg20.out hb)
  replace BKg74 := Aside0.mk (blk_below (o := .cells #[.int .i64 t51, .bool t52, .int .i64 t53, .string t54, .slice A59 t55.length cp59] 28 (0, 0)) BKg74.out hb)
  replace HB := Aside0.mk (below_step HB.out hb)
  clear hb
  clear hz101 hz102 hf103 hf104 hz105 hz106 hz107 hz108 hz109 hf110 hf111 hf112 hf113 hf114 hz115 hz116 hz117 hz118 hz119 hf120 hf121 hf122 hf123 hf124
  have hz134 : w132.cell? ⟨g1, 0, none⟩ = some (.int .i64 a0_0) := (blk_cell BKg1.out 0).trans rfl
  have hz135 : w132.cell? ⟨g1, 1, none⟩ = some (.int .i64 a0_1) := (blk_cell BKg1.out 1).trans rfl
  have hf136 := blk_frozen BKg1.out 0
  have hf137 := blk_frozen BKg1.out 1
  have hz138 : w132.cell? ⟨g20, 0, none⟩ = some (.int .i64 t7) := (blk_cell BKg20.out 0).trans rfl
  have hz139 : w132.cell? ⟨g20, 1, none⟩ = some (.bool t8) := (blk_cell BKg20.out 1).trans rfl
  have hz140 : w132.cell? ⟨g20, 2, none⟩ = some (.int .i64 t9) := (blk_cell BKg20.out 2).trans rfl
  have hz141 : w132.cell? ⟨g20, 3, none⟩ = some (.string t10) := (blk_cell BKg20.out 3).trans rfl
  have hz142 : w132.cell? ⟨g20, 4, none⟩ = some (.slice A15 t11.length cp15) := (blk_cell BKg20.out 4).trans rfl
  have hf143 := blk_frozen BKg20.out 0
  have hf144 := blk_frozen BKg20.out 1
  have hf145 := blk_frozen BKg20.out 2
  have hf146 := blk_frozen BKg20.out 3
  have hf147 := blk_frozen BKg20.out 4
  have hz148 : w132.cell? ⟨g74, 0, none⟩ = some (.int .i64 t51) := (blk_cell BKg74.out 0).trans rfl
  have hz149 : w132.cell? ⟨g74, 1, none⟩ = some (.bool t52) := (blk_cell BKg74.out 1).trans rfl
  have hz150 : w132.cell? ⟨g74, 2, none⟩ = some (.int .i64 t53) := (blk_cell BKg74.out 2).trans rfl
  have hz151 : w132.cell? ⟨g74, 3, none⟩ = some (.string t54) := (blk_cell BKg74.out 3).trans rfl
  have hz152 : w132.cell? ⟨g74, 4, none⟩ = some (.slice A59 t55.length cp59) := (blk_cell BKg74.out 4).trans rfl
  have hf153 := blk_frozen BKg74.out 0
  have hf154 := blk_frozen BKg74.out 1
  have hf155 := blk_frozen BKg74.out 2
  have hf156 := blk_frozen BKg74.out 3
  have hf157 := blk_frozen BKg74.out 4
  go_wp2_with (((with_reducible refine gate_dst (N := 11) rfl ?_); (try (refine gate_guard (by rfl) ?_; dsimp only)); refine box_event ?hg (N := 11) ?hd (cs := #[.int .i64 0, .bool false, .int .i64 0, .string (⟨#[]⟩ : ByteArray), .slice none 0 0]) (t := 28) ?hr ?_; (case hd => rfl); (case hg => rfl); (case hr => first | (go_simp; done) | (go_simp; rfl)); intro g158 hg w159 hbox hb); replace hg := Aside0.mk hg; replace hbox := Aside0.mk hbox; refine stop_ ?_)
  refine Stop.go ?_
  replace hg := hg.out
  replace hbox := hbox.out
  have GEg158 := Aside0.mk (by rw [hg]; exact (below_size HB.out) : w.heap.size ≤ g158)
  replace HF15 := Aside0.mk (Kd.F_elderB HF15.out g158 (Nat.le_of_eq hg.symm))
  replace HF15 := Aside0.mk (Kd.F_mono HF15.out (fun k_ hk_ => ⟨hk_.1.1, hk_.1.2.1, hk_.1.2.2.1, hk_.1.2.2.2, hk_.2⟩) : Kd.F k28 _ (fun k_ => (w.heap.size ≤ k_) ∧ k_ ≠ g1 ∧ k_ ≠ g20 ∧ k_ ≠ g74 ∧ k_ ≠ g158) _ _ _)
  replace HF59 := Aside0.mk (Kd.F_elderB HF59.out g158 (Nat.le_of_eq hg.symm))
  replace HF59 := Aside0.mk (Kd.F_mono HF59.out (fun k_ hk_ => ⟨hk_.1.1, hk_.1.2.1, hk_.1.2.2.1, hk_.1.2.2.2, hk_.2⟩) : Kd.F k28 _ (fun k_ => (w.heap.size ≤ k_) ∧ k_ ≠ g1 ∧ k_ ≠ g20 ∧ k_ ≠ g74 ∧ k_ ≠ g158) _ _ _)
  replace HF133 := Aside0.mk (Kd.F_elderB HF133.out g158 (Nat.le_of_eq hg.symm))
  replace HF133 := Aside0.mk (Kd.F_mono HF133.out (fun k_ hk_ => ⟨hk_.1.1, hk_.1.2.1, hk_.1.2.2.1, hk_.1.2.2.2, hk_.2⟩) : Kd.F k28 _ (fun k_ => (w.heap.size ≤ k_) ∧ k_ ≠ g1 ∧ k_ ≠ g20 ∧ k_ ≠ g74 ∧ k_ ≠ g158) _ _ _)
  have NEg1_g158 := Aside0.mk (by rw [hg]; exact Nat.ne_of_lt (blk_lt (o := .cells #[.int .i64 a0_0, .int .i64 a0_1] 23 (0, 0)) BKg1.out) : g1 ≠ g158)
  have NEg158_g1 := Aside0.mk (Ne.symm NEg1_g158.out)
  have NEg20_g158 := Aside0.mk (by rw [hg]; exact Nat.ne_of_lt (blk_lt (o := .cells #[.int .i64 t7, .bool t8, .int .i64 t9, .string t10, .slice A15 t11.length cp15] 28 (0, 0)) BKg20.out) : g20 ≠ g158)
  have NEg158_g20 := Aside0.mk (Ne.symm NEg20_g158.out)
  have NEg74_g158 := Aside0.mk (by rw [hg]; exact Nat.ne_of_lt (blk_lt (o := .cells #[.int .i64 t51, .bool t52, .int .i64 t53, .string t54, .slice A59 t55.length cp59] 28 (0, 0)) BKg74.out) : g74 ≠ g158)
  have NEg158_g74 := Aside0.mk (Ne.symm NEg74_g158.out)
  replace HF15 := Aside0.mk (Kd.F_below HF15.out hb)
  replace HF59 := Aside0.mk (Kd.F_below HF59.out hb)
  replace HF133 := Aside0.mk (Kd.F_below HF133.out hb)
  replace BKg1 := Aside0.mk (blk_below (o := .cells #[.int .i64 a0_0, .int .i64 a0_1] 23 (0, 0)) BKg1.out hb)
  replace BKg20 := Aside0.mk (blk_below (o := .cells #[.int .i64 t7, .bool t8, .int .i64 t9, .string t10, .slice A15 t11.length cp15] 28 (0, 0)) BKg20.out hb)
  replace BKg74 := Aside0.mk (blk_below (o := .cells #[.int .i64 t51, .bool t52, .int .i64 t53, .string t54, .slice A59 t55.length cp59] 28 (0, 0)) BKg74.out hb)
  replace HB := Aside0.mk (below_step HB.out hb)
  have BKg158 := Aside0.mk hbox
  clear hg hbox hb
  clear hz134 hz135 hf136 hf137 hz138 hz139 hz140 hz141 hz142 hf143 hf144 hf145 hf146 hf147 hz148 hz149 hz150 hz151 hz152 hf153 hf154 hf155 hf156 hf157
  have hz160 : w159.cell? ⟨g1, 0, none⟩ = some (.int .i64 a0_0) := (blk_cell BKg1.out 0).trans rfl
  have hz161 : w159.cell? ⟨g1, 1, none⟩ = some (.int .i64 a0_1) := (blk_cell BKg1.out 1).trans rfl
  have hf162 := blk_frozen BKg1.out 0
  have hf163 := blk_frozen BKg1.out 1
  have hz164 : w159.cell? ⟨g20, 0, none⟩ = some (.int .i64 t7) := (blk_cell BKg20.out 0).trans rfl
  have hz165 : w159.cell? ⟨g20, 1, none⟩ = some (.bool t8) := (blk_cell BKg20.out 1).trans rfl
  have hz166 : w159.cell? ⟨g20, 2, none⟩ = some (.int .i64 t9) := (blk_cell BKg20.out 2).trans rfl
  have hz167 : w159.cell? ⟨g20, 3, none⟩ = some (.string t10) := (blk_cell BKg20.out 3).trans rfl
  have hz168 : w159.cell? ⟨g20, 4, none⟩ = some (.slice A15 t11.length cp15) := (blk_cell BKg20.out 4).trans rfl
  have hf169 := blk_frozen BKg20.out 0
  have hf170 := blk_frozen BKg20.out 1
  have hf171 := blk_frozen BKg20.out 2
  have hf172 := blk_frozen BKg20.out 3
  have hf173 := blk_frozen BKg20.out 4
  have hz174 : w159.cell? ⟨g74, 0, none⟩ = some (.int .i64 t51) := (blk_cell BKg74.out 0).trans rfl
  have hz175 : w159.cell? ⟨g74, 1, none⟩ = some (.bool t52) := (blk_cell BKg74.out 1).trans rfl
  have hz176 : w159.cell? ⟨g74, 2, none⟩ = some (.int .i64 t53) := (blk_cell BKg74.out 2).trans rfl
  have hz177 : w159.cell? ⟨g74, 3, none⟩ = some (.string t54) := (blk_cell BKg74.out 3).trans rfl
  have hz178 : w159.cell? ⟨g74, 4, none⟩ = some (.slice A59 t55.length cp59) := (blk_cell BKg74.out 4).trans rfl
  have hf179 := blk_frozen BKg74.out 0
  have hf180 := blk_frozen BKg74.out 1
  have hf181 := blk_frozen BKg74.out 2
  have hf182 := blk_frozen BKg74.out 3
  have hf183 := blk_frozen BKg74.out 4
  have hz184 : w159.cell? ⟨g158, 0, none⟩ = some (.int .i64 0) := (blk_cell BKg158.out 0).trans rfl
  have hz185 : w159.cell? ⟨g158, 1, none⟩ = some (.bool false) := (blk_cell BKg158.out 1).trans rfl
  have hz186 : w159.cell? ⟨g158, 2, none⟩ = some (.int .i64 0) := (blk_cell BKg158.out 2).trans rfl
  have hz187 : w159.cell? ⟨g158, 3, none⟩ = some (.string (⟨#[]⟩ : ByteArray)) := (blk_cell BKg158.out 3).trans rfl
  have hz188 : w159.cell? ⟨g158, 4, none⟩ = some (.slice none 0 0) := (blk_cell BKg158.out 4).trans rfl
  have hf189 := blk_frozen BKg158.out 0
  have hf190 := blk_frozen BKg158.out 1
  have hf191 := blk_frozen BKg158.out 2
  have hf192 := blk_frozen BKg158.out 3
  have hf193 := blk_frozen BKg158.out 4
  go_wp2_with (((with_reducible refine gate_store (t := 28) (p := 11) rfl ?_); (try (refine gate_guard (by rfl) ?_; dsimp only)); refine MW.ev_store #[.int .i64 t125, .bool t126, .int .i64 t127, .string t128, .slice A133 t129.length cp133] rfl rfl rfl rfl (cs := #[.int .i64 0, .bool false, .int .i64 0, .string (⟨#[]⟩ : ByteArray), .slice none 0 0]) (ty := 28) BKg158.out [.int .i64 t125, .bool t126, .int .i64 t127, .string t128, .slice A133 t129.length cp133] rfl (by kernel_rfl) (by simp) (by simp [Value.oneCell']) rfl ?_; intro w194 hbk hg); replace hbk := Aside0.mk hbk; refine stop_ ?_)
  refine Stop.go ?_
  replace hbk := hbk.out
  replace HF15 := Aside0.mk (Kd.F_grown (ok := (fun k_ => (w.heap.size ≤ k_) ∧ k_ ≠ g1 ∧ k_ ≠ g20 ∧ k_ ≠ g74 ∧ k_ ≠ g158)) HF15.out hg (fun k_ hk_ he_ => hk_.2.2.2.2 (Option.some.inj he_)))
  replace HF59 := Aside0.mk (Kd.F_grown (ok := (fun k_ => (w.heap.size ≤ k_) ∧ k_ ≠ g1 ∧ k_ ≠ g20 ∧ k_ ≠ g74 ∧ k_ ≠ g158)) HF59.out hg (fun k_ hk_ he_ => hk_.2.2.2.2 (Option.some.inj he_)))
  replace HF133 := Aside0.mk (Kd.F_grown (ok := (fun k_ => (w.heap.size ≤ k_) ∧ k_ ≠ g1 ∧ k_ ≠ g20 ∧ k_ ≠ g74 ∧ k_ ≠ g158)) HF133.out hg (fun k_ hk_ he_ => hk_.2.2.2.2 (Option.some.inj he_)))
  replace BKg1 := Aside0.mk (blk_grown (o := .cells #[.int .i64 a0_0, .int .i64 a0_1] 23 (0, 0)) BKg1.out hg (fun he_ => NEg1_g158.out (Option.some.inj he_)))
  replace BKg20 := Aside0.mk (blk_grown (o := .cells #[.int .i64 t7, .bool t8, .int .i64 t9, .string t10, .slice A15 t11.length cp15] 28 (0, 0)) BKg20.out hg (fun he_ => NEg20_g158.out (Option.some.inj he_)))
  replace BKg74 := Aside0.mk (blk_grown (o := .cells #[.int .i64 t51, .bool t52, .int .i64 t53, .string t54, .slice A59 t55.length cp59] 28 (0, 0)) BKg74.out hg (fun he_ => NEg74_g158.out (Option.some.inj he_)))
  replace HB := Aside0.mk (Below.grown HB.out hg (below_size HB.out) (fun k_ hk_ => by injection hk_ with hk_; rw [← hk_]; exact GEg158.out))
  replace BKg158 := Aside0.mk hbk
  clear hg hbk
  clear hz160 hz161 hf162 hf163 hz164 hz165 hz166 hz167 hz168 hf169 hf170 hf171 hf172 hf173 hz174 hz175 hz176 hz177 hz178 hf179 hf180 hf181 hf182 hf183 hz184 hz185 hz186 hz187 hz188 hf189 hf190 hf191 hf192 hf193
  have hz195 : w194.cell? ⟨g1, 0, none⟩ = some (.int .i64 a0_0) := (blk_cell BKg1.out 0).trans rfl
  have hz196 : w194.cell? ⟨g1, 1, none⟩ = some (.int .i64 a0_1) := (blk_cell BKg1.out 1).trans rfl
  have hf197 := blk_frozen BKg1.out 0
  have hf198 := blk_frozen BKg1.out 1
  have hz199 : w194.cell? ⟨g20, 0, none⟩ = some (.int .i64 t7) := (blk_cell BKg20.out 0).trans rfl
  have hz200 : w194.cell? ⟨g20, 1, none⟩ = some (.bool t8) := (blk_cell BKg20.out 1).trans rfl
  have hz201 : w194.cell? ⟨g20, 2, none⟩ = some (.int .i64 t9) := (blk_cell BKg20.out 2).trans rfl
  have hz202 : w194.cell? ⟨g20, 3, none⟩ = some (.string t10) := (blk_cell BKg20.out 3).trans rfl
  have hz203 : w194.cell? ⟨g20, 4, none⟩ = some (.slice A15 t11.length cp15) := (blk_cell BKg20.out 4).trans rfl
  have hf204 := blk_frozen BKg20.out 0
  have hf205 := blk_frozen BKg20.out 1
  have hf206 := blk_frozen BKg20.out 2
  have hf207 := blk_frozen BKg20.out 3
  have hf208 := blk_frozen BKg20.out 4
  have hz209 : w194.cell? ⟨g74, 0, none⟩ = some (.int .i64 t51) := (blk_cell BKg74.out 0).trans rfl
  have hz210 : w194.cell? ⟨g74, 1, none⟩ = some (.bool t52) := (blk_cell BKg74.out 1).trans rfl
  have hz211 : w194.cell? ⟨g74, 2, none⟩ = some (.int .i64 t53) := (blk_cell BKg74.out 2).trans rfl
  have hz212 : w194.cell? ⟨g74, 3, none⟩ = some (.string t54) := (blk_cell BKg74.out 3).trans rfl
  have hz213 : w194.cell? ⟨g74, 4, none⟩ = some (.slice A59 t55.length cp59) := (blk_cell BKg74.out 4).trans rfl
  have hf214 := blk_frozen BKg74.out 0
  have hf215 := blk_frozen BKg74.out 1
  have hf216 := blk_frozen BKg74.out 2
  have hf217 := blk_frozen BKg74.out 3
  have hf218 := blk_frozen BKg74.out 4
  have hz219 : w194.cell? ⟨g158, 0, none⟩ = some (.int .i64 t125) := (blk_cell BKg158.out 0).trans rfl
  have hz220 : w194.cell? ⟨g158, 1, none⟩ = some (.bool t126) := (blk_cell BKg158.out 1).trans rfl
  have hz221 : w194.cell? ⟨g158, 2, none⟩ = some (.int .i64 t127) := (blk_cell BKg158.out 2).trans rfl
  have hz222 : w194.cell? ⟨g158, 3, none⟩ = some (.string t128) := (blk_cell BKg158.out 3).trans rfl
  have hz223 : w194.cell? ⟨g158, 4, none⟩ = some (.slice A133 t129.length cp133) := (blk_cell BKg158.out 4).trans rfl
  have hf224 := blk_frozen BKg158.out 0
  have hf225 := blk_frozen BKg158.out 1
  have hf226 := blk_frozen BKg158.out 2
  have hf227 := blk_frozen BKg158.out 3
  have hf228 := blk_frozen BKg158.out 4
  have H := HH.out
  replace H := Option.bind_eq_some_iff.mp H
  obtain ⟨⟨t229, t230, t231, t232, t233, t234⟩, at_, H⟩ := H
  have At235 := Aside0.mk at_
  clear at_
  replace HH := Aside0.mk (show ((prims_Text.f a0_0 a0_1 a2).bind fun bt363 => ((toponymref16_Text.f a0_0 a0_1 a2).bind fun bt527 => ((toponymref15_Same.f k t7 t8 t9 t10 t11 t51 t52 t53 t54 t55).bind fun t721 => (if t721 = true then (if t12 = t56 then ((toponymref15_Same.f k t125 t126 t127 t128 t129 t229 t230 t231 t232 t233).bind fun t792 => (if t792 = true then (if t130 = t234 then ((toponymref15_Same.f k bt363.1 bt363.2.1 bt363.2.2.1 bt363.2.2.2.1 bt363.2.2.2.2.1 bt527.1 bt527.2.1 bt527.2.2.1 bt527.2.2.2.1 bt527.2.2.2.2.1).bind fun t863 => (if t863 = true then (if bt363.2.2.2.2.2 = bt527.2.2.2.2.2 then ((toponymlaw16_awake.f k ).bind fun t934 => (some t934)) else (some false)) else (some false))) else (some false)) else (some false))) else (some false)) else (some false))))) = some r from H)
  clear H
  go_wp2_with (((with_reducible refine gate_callee (f := 18) rfl ?_); (try (refine gate_guard (by rfl) ?_; dsimp only)); refine goesL_ (some 54) rfl rfl Try.func18 (by kernel_rfl) rfl #[.int .i64 a0_0, .int .i64 a0_1, .bool (decide (a1 > 0))] rfl (by (try simp only [List.map_toArray, List.map_cons, List.map_nil]); first | done | rfl | (simp only [List.length_drop, List.length_take]; rfl)) ?_; (with_reducible refine (toponymref16_Bool.calls  a0_0 a0_1 (decide (a1 > 0)) t229 t230 t231 t232 t233 t234 _  At235.out).mono ?_); rintro e w236 ⟨A237, cp237, rfl, hl237, hn237, hb⟩; refine ⟨_, rfl, ?_⟩); refine stop_ ?_)
  refine Stop.go ?_
  have HL237 := Aside0.mk hl237
  have HF237 := Aside0.mk (Kd.F_mono hn237 (fun k_ h_ => ⟨(Nat.le_trans (below_size HB.out) h_), Kd.freshB (o := .cells #[.int .i64 a0_0, .int .i64 a0_1] 23 (0, 0)) BKg1.out k_ h_, Kd.freshB (o := .cells #[.int .i64 t7, .bool t8, .int .i64 t9, .string t10, .slice A15 t11.length cp15] 28 (0, 0)) BKg20.out k_ h_, Kd.freshB (o := .cells #[.int .i64 t51, .bool t52, .int .i64 t53, .string t54, .slice A59 t55.length cp59] 28 (0, 0)) BKg74.out k_ h_, Kd.freshB (o := .cells #[.int .i64 t125, .bool t126, .int .i64 t127, .string t128, .slice A133 t129.length cp133] 28 (0, 0)) BKg158.out k_ h_⟩) : Kd.F k28 _ (fun k_ => (w.heap.size ≤ k_) ∧ k_ ≠ g1 ∧ k_ ≠ g20 ∧ k_ ≠ g74 ∧ k_ ≠ g158) _ _ _)
  clear hn237 hl237
  replace HF15 := Aside0.mk (Kd.F_below HF15.out hb)
  replace HF59 := Aside0.mk (Kd.F_below HF59.out hb)
  replace HF133 := Aside0.mk (Kd.F_below HF133.out hb)
  replace BKg1 := Aside0.mk (blk_below (o := .cells #[.int .i64 a0_0, .int .i64 a0_1] 23 (0, 0)) BKg1.out hb)
  replace BKg20 := Aside0.mk (blk_below (o := .cells #[.int .i64 t7, .bool t8, .int .i64 t9, .string t10, .slice A15 t11.length cp15] 28 (0, 0)) BKg20.out hb)
  replace BKg74 := Aside0.mk (blk_below (o := .cells #[.int .i64 t51, .bool t52, .int .i64 t53, .string t54, .slice A59 t55.length cp59] 28 (0, 0)) BKg74.out hb)
  replace BKg158 := Aside0.mk (blk_below (o := .cells #[.int .i64 t125, .bool t126, .int .i64 t127, .string t128, .slice A133 t129.length cp133] 28 (0, 0)) BKg158.out hb)
  replace HB := Aside0.mk (below_step HB.out hb)
  clear hb
  clear hz195 hz196 hf197 hf198 hz199 hz200 hz201 hz202 hz203 hf204 hf205 hf206 hf207 hf208 hz209 hz210 hz211 hz212 hz213 hf214 hf215 hf216 hf217 hf218 hz219 hz220 hz221 hz222 hz223 hf224 hf225 hf226 hf227 hf228
  have hz238 : w236.cell? ⟨g1, 0, none⟩ = some (.int .i64 a0_0) := (blk_cell BKg1.out 0).trans rfl
  have hz239 : w236.cell? ⟨g1, 1, none⟩ = some (.int .i64 a0_1) := (blk_cell BKg1.out 1).trans rfl
  have hf240 := blk_frozen BKg1.out 0
  have hf241 := blk_frozen BKg1.out 1
  have hz242 : w236.cell? ⟨g20, 0, none⟩ = some (.int .i64 t7) := (blk_cell BKg20.out 0).trans rfl
  have hz243 : w236.cell? ⟨g20, 1, none⟩ = some (.bool t8) := (blk_cell BKg20.out 1).trans rfl
  have hz244 : w236.cell? ⟨g20, 2, none⟩ = some (.int .i64 t9) := (blk_cell BKg20.out 2).trans rfl
  have hz245 : w236.cell? ⟨g20, 3, none⟩ = some (.string t10) := (blk_cell BKg20.out 3).trans rfl
  have hz246 : w236.cell? ⟨g20, 4, none⟩ = some (.slice A15 t11.length cp15) := (blk_cell BKg20.out 4).trans rfl
  have hf247 := blk_frozen BKg20.out 0
  have hf248 := blk_frozen BKg20.out 1
  have hf249 := blk_frozen BKg20.out 2
  have hf250 := blk_frozen BKg20.out 3
  have hf251 := blk_frozen BKg20.out 4
  have hz252 : w236.cell? ⟨g74, 0, none⟩ = some (.int .i64 t51) := (blk_cell BKg74.out 0).trans rfl
  have hz253 : w236.cell? ⟨g74, 1, none⟩ = some (.bool t52) := (blk_cell BKg74.out 1).trans rfl
  have hz254 : w236.cell? ⟨g74, 2, none⟩ = some (.int .i64 t53) := (blk_cell BKg74.out 2).trans rfl
  have hz255 : w236.cell? ⟨g74, 3, none⟩ = some (.string t54) := (blk_cell BKg74.out 3).trans rfl
  have hz256 : w236.cell? ⟨g74, 4, none⟩ = some (.slice A59 t55.length cp59) := (blk_cell BKg74.out 4).trans rfl
  have hf257 := blk_frozen BKg74.out 0
  have hf258 := blk_frozen BKg74.out 1
  have hf259 := blk_frozen BKg74.out 2
  have hf260 := blk_frozen BKg74.out 3
  have hf261 := blk_frozen BKg74.out 4
  have hz262 : w236.cell? ⟨g158, 0, none⟩ = some (.int .i64 t125) := (blk_cell BKg158.out 0).trans rfl
  have hz263 : w236.cell? ⟨g158, 1, none⟩ = some (.bool t126) := (blk_cell BKg158.out 1).trans rfl
  have hz264 : w236.cell? ⟨g158, 2, none⟩ = some (.int .i64 t127) := (blk_cell BKg158.out 2).trans rfl
  have hz265 : w236.cell? ⟨g158, 3, none⟩ = some (.string t128) := (blk_cell BKg158.out 3).trans rfl
  have hz266 : w236.cell? ⟨g158, 4, none⟩ = some (.slice A133 t129.length cp133) := (blk_cell BKg158.out 4).trans rfl
  have hf267 := blk_frozen BKg158.out 0
  have hf268 := blk_frozen BKg158.out 1
  have hf269 := blk_frozen BKg158.out 2
  have hf270 := blk_frozen BKg158.out 3
  have hf271 := blk_frozen BKg158.out 4
  go_wp2_with (((with_reducible refine gate_dst (N := 13) rfl ?_); (try (refine gate_guard (by rfl) ?_; dsimp only)); refine box_event ?hg (N := 13) ?hd (cs := #[.int .i64 0, .bool false, .int .i64 0, .string (⟨#[]⟩ : ByteArray), .slice none 0 0]) (t := 28) ?hr ?_; (case hd => rfl); (case hg => rfl); (case hr => first | (go_simp; done) | (go_simp; rfl)); intro g272 hg w273 hbox hb); replace hg := Aside0.mk hg; replace hbox := Aside0.mk hbox; refine stop_ ?_)
  refine Stop.go ?_
  replace hg := hg.out
  replace hbox := hbox.out
  have GEg272 := Aside0.mk (by rw [hg]; exact (below_size HB.out) : w.heap.size ≤ g272)
  replace HF15 := Aside0.mk (Kd.F_elderB HF15.out g272 (Nat.le_of_eq hg.symm))
  replace HF15 := Aside0.mk (Kd.F_mono HF15.out (fun k_ hk_ => ⟨hk_.1.1, hk_.1.2.1, hk_.1.2.2.1, hk_.1.2.2.2.1, hk_.1.2.2.2.2, hk_.2⟩) : Kd.F k28 _ (fun k_ => (w.heap.size ≤ k_) ∧ k_ ≠ g1 ∧ k_ ≠ g20 ∧ k_ ≠ g74 ∧ k_ ≠ g158 ∧ k_ ≠ g272) _ _ _)
  replace HF59 := Aside0.mk (Kd.F_elderB HF59.out g272 (Nat.le_of_eq hg.symm))
  replace HF59 := Aside0.mk (Kd.F_mono HF59.out (fun k_ hk_ => ⟨hk_.1.1, hk_.1.2.1, hk_.1.2.2.1, hk_.1.2.2.2.1, hk_.1.2.2.2.2, hk_.2⟩) : Kd.F k28 _ (fun k_ => (w.heap.size ≤ k_) ∧ k_ ≠ g1 ∧ k_ ≠ g20 ∧ k_ ≠ g74 ∧ k_ ≠ g158 ∧ k_ ≠ g272) _ _ _)
  replace HF133 := Aside0.mk (Kd.F_elderB HF133.out g272 (Nat.le_of_eq hg.symm))
  replace HF133 := Aside0.mk (Kd.F_mono HF133.out (fun k_ hk_ => ⟨hk_.1.1, hk_.1.2.1, hk_.1.2.2.1, hk_.1.2.2.2.1, hk_.1.2.2.2.2, hk_.2⟩) : Kd.F k28 _ (fun k_ => (w.heap.size ≤ k_) ∧ k_ ≠ g1 ∧ k_ ≠ g20 ∧ k_ ≠ g74 ∧ k_ ≠ g158 ∧ k_ ≠ g272) _ _ _)
  replace HF237 := Aside0.mk (Kd.F_elderB HF237.out g272 (Nat.le_of_eq hg.symm))
  replace HF237 := Aside0.mk (Kd.F_mono HF237.out (fun k_ hk_ => ⟨hk_.1.1, hk_.1.2.1, hk_.1.2.2.1, hk_.1.2.2.2.1, hk_.1.2.2.2.2, hk_.2⟩) : Kd.F k28 _ (fun k_ => (w.heap.size ≤ k_) ∧ k_ ≠ g1 ∧ k_ ≠ g20 ∧ k_ ≠ g74 ∧ k_ ≠ g158 ∧ k_ ≠ g272) _ _ _)
  have NEg1_g272 := Aside0.mk (by rw [hg]; exact Nat.ne_of_lt (blk_lt (o := .cells #[.int .i64 a0_0, .int .i64 a0_1] 23 (0, 0)) BKg1.out) : g1 ≠ g272)
  have NEg272_g1 := Aside0.mk (Ne.symm NEg1_g272.out)
  have NEg20_g272 := Aside0.mk (by rw [hg]; exact Nat.ne_of_lt (blk_lt (o := .cells #[.int .i64 t7, .bool t8, .int .i64 t9, .string t10, .slice A15 t11.length cp15] 28 (0, 0)) BKg20.out) : g20 ≠ g272)
  have NEg272_g20 := Aside0.mk (Ne.symm NEg20_g272.out)
  have NEg74_g272 := Aside0.mk (by rw [hg]; exact Nat.ne_of_lt (blk_lt (o := .cells #[.int .i64 t51, .bool t52, .int .i64 t53, .string t54, .slice A59 t55.length cp59] 28 (0, 0)) BKg74.out) : g74 ≠ g272)
  have NEg272_g74 := Aside0.mk (Ne.symm NEg74_g272.out)
  have NEg158_g272 := Aside0.mk (by rw [hg]; exact Nat.ne_of_lt (blk_lt (o := .cells #[.int .i64 t125, .bool t126, .int .i64 t127, .string t128, .slice A133 t129.length cp133] 28 (0, 0)) BKg158.out) : g158 ≠ g272)
  have NEg272_g158 := Aside0.mk (Ne.symm NEg158_g272.out)
  replace HF15 := Aside0.mk (Kd.F_below HF15.out hb)
  replace HF59 := Aside0.mk (Kd.F_below HF59.out hb)
  replace HF133 := Aside0.mk (Kd.F_below HF133.out hb)
  replace HF237 := Aside0.mk (Kd.F_below HF237.out hb)
  replace BKg1 := Aside0.mk (blk_below (o := .cells #[.int .i64 a0_0, .int .i64 a0_1] 23 (0, 0)) BKg1.out hb)
  replace BKg20 := Aside0.mk (blk_below (o := .cells #[.int .i64 t7, .bool t8, .int .i64 t9, .string t10, .slice A15 t11.length cp15] 28 (0, 0)) BKg20.out hb)
  replace BKg74 := Aside0.mk (blk_below (o := .cells #[.int .i64 t51, .bool t52, .int .i64 t53, .string t54, .slice A59 t55.length cp59] 28 (0, 0)) BKg74.out hb)
  replace BKg158 := Aside0.mk (blk_below (o := .cells #[.int .i64 t125, .bool t126, .int .i64 t127, .string t128, .slice A133 t129.length cp133] 28 (0, 0)) BKg158.out hb)
  replace HB := Aside0.mk (below_step HB.out hb)
  have BKg272 := Aside0.mk hbox
  clear hg hbox hb
  clear hz238 hz239 hf240 hf241 hz242 hz243 hz244 hz245 hz246 hf247 hf248 hf249 hf250 hf251 hz252 hz253 hz254 hz255 hz256 hf257 hf258 hf259 hf260 hf261 hz262 hz263 hz264 hz265 hz266 hf267 hf268 hf269 hf270 hf271
  have hz274 : w273.cell? ⟨g1, 0, none⟩ = some (.int .i64 a0_0) := (blk_cell BKg1.out 0).trans rfl
  have hz275 : w273.cell? ⟨g1, 1, none⟩ = some (.int .i64 a0_1) := (blk_cell BKg1.out 1).trans rfl
  have hf276 := blk_frozen BKg1.out 0
  have hf277 := blk_frozen BKg1.out 1
  have hz278 : w273.cell? ⟨g20, 0, none⟩ = some (.int .i64 t7) := (blk_cell BKg20.out 0).trans rfl
  have hz279 : w273.cell? ⟨g20, 1, none⟩ = some (.bool t8) := (blk_cell BKg20.out 1).trans rfl
  have hz280 : w273.cell? ⟨g20, 2, none⟩ = some (.int .i64 t9) := (blk_cell BKg20.out 2).trans rfl
  have hz281 : w273.cell? ⟨g20, 3, none⟩ = some (.string t10) := (blk_cell BKg20.out 3).trans rfl
  have hz282 : w273.cell? ⟨g20, 4, none⟩ = some (.slice A15 t11.length cp15) := (blk_cell BKg20.out 4).trans rfl
  have hf283 := blk_frozen BKg20.out 0
  have hf284 := blk_frozen BKg20.out 1
  have hf285 := blk_frozen BKg20.out 2
  have hf286 := blk_frozen BKg20.out 3
  have hf287 := blk_frozen BKg20.out 4
  have hz288 : w273.cell? ⟨g74, 0, none⟩ = some (.int .i64 t51) := (blk_cell BKg74.out 0).trans rfl
  have hz289 : w273.cell? ⟨g74, 1, none⟩ = some (.bool t52) := (blk_cell BKg74.out 1).trans rfl
  have hz290 : w273.cell? ⟨g74, 2, none⟩ = some (.int .i64 t53) := (blk_cell BKg74.out 2).trans rfl
  have hz291 : w273.cell? ⟨g74, 3, none⟩ = some (.string t54) := (blk_cell BKg74.out 3).trans rfl
  have hz292 : w273.cell? ⟨g74, 4, none⟩ = some (.slice A59 t55.length cp59) := (blk_cell BKg74.out 4).trans rfl
  have hf293 := blk_frozen BKg74.out 0
  have hf294 := blk_frozen BKg74.out 1
  have hf295 := blk_frozen BKg74.out 2
  have hf296 := blk_frozen BKg74.out 3
  have hf297 := blk_frozen BKg74.out 4
  have hz298 : w273.cell? ⟨g158, 0, none⟩ = some (.int .i64 t125) := (blk_cell BKg158.out 0).trans rfl
  have hz299 : w273.cell? ⟨g158, 1, none⟩ = some (.bool t126) := (blk_cell BKg158.out 1).trans rfl
  have hz300 : w273.cell? ⟨g158, 2, none⟩ = some (.int .i64 t127) := (blk_cell BKg158.out 2).trans rfl
  have hz301 : w273.cell? ⟨g158, 3, none⟩ = some (.string t128) := (blk_cell BKg158.out 3).trans rfl
  have hz302 : w273.cell? ⟨g158, 4, none⟩ = some (.slice A133 t129.length cp133) := (blk_cell BKg158.out 4).trans rfl
  have hf303 := blk_frozen BKg158.out 0
  have hf304 := blk_frozen BKg158.out 1
  have hf305 := blk_frozen BKg158.out 2
  have hf306 := blk_frozen BKg158.out 3
  have hf307 := blk_frozen BKg158.out 4
  have hz308 : w273.cell? ⟨g272, 0, none⟩ = some (.int .i64 0) := (blk_cell BKg272.out 0).trans rfl
  have hz309 : w273.cell? ⟨g272, 1, none⟩ = some (.bool false) := (blk_cell BKg272.out 1).trans rfl
  have hz310 : w273.cell? ⟨g272, 2, none⟩ = some (.int .i64 0) := (blk_cell BKg272.out 2).trans rfl
  have hz311 : w273.cell? ⟨g272, 3, none⟩ = some (.string (⟨#[]⟩ : ByteArray)) := (blk_cell BKg272.out 3).trans rfl
  have hz312 : w273.cell? ⟨g272, 4, none⟩ = some (.slice none 0 0) := (blk_cell BKg272.out 4).trans rfl
  have hf313 := blk_frozen BKg272.out 0
  have hf314 := blk_frozen BKg272.out 1
  have hf315 := blk_frozen BKg272.out 2
  have hf316 := blk_frozen BKg272.out 3
  have hf317 := blk_frozen BKg272.out 4
  go_wp2_with (((with_reducible refine gate_store (t := 28) (p := 13) rfl ?_); (try (refine gate_guard (by rfl) ?_; dsimp only)); refine MW.ev_store #[.int .i64 t229, .bool t230, .int .i64 t231, .string t232, .slice A237 t233.length cp237] rfl rfl rfl rfl (cs := #[.int .i64 0, .bool false, .int .i64 0, .string (⟨#[]⟩ : ByteArray), .slice none 0 0]) (ty := 28) BKg272.out [.int .i64 t229, .bool t230, .int .i64 t231, .string t232, .slice A237 t233.length cp237] rfl (by kernel_rfl) (by simp) (by simp [Value.oneCell']) rfl ?_; intro w318 hbk hg); replace hbk := Aside0.mk hbk; refine stop_ ?_)
  refine Stop.go ?_
  replace hbk := hbk.out
  replace HF15 := Aside0.mk (Kd.F_grown (ok := (fun k_ => (w.heap.size ≤ k_) ∧ k_ ≠ g1 ∧ k_ ≠ g20 ∧ k_ ≠ g74 ∧ k_ ≠ g158 ∧ k_ ≠ g272)) HF15.out hg (fun k_ hk_ he_ => hk_.2.2.2.2.2 (Option.some.inj he_)))
  replace HF59 := Aside0.mk (Kd.F_grown (ok := (fun k_ => (w.heap.size ≤ k_) ∧ k_ ≠ g1 ∧ k_ ≠ g20 ∧ k_ ≠ g74 ∧ k_ ≠ g158 ∧ k_ ≠ g272)) HF59.out hg (fun k_ hk_ he_ => hk_.2.2.2.2.2 (Option.some.inj he_)))
  replace HF133 := Aside0.mk (Kd.F_grown (ok := (fun k_ => (w.heap.size ≤ k_) ∧ k_ ≠ g1 ∧ k_ ≠ g20 ∧ k_ ≠ g74 ∧ k_ ≠ g158 ∧ k_ ≠ g272)) HF133.out hg (fun k_ hk_ he_ => hk_.2.2.2.2.2 (Option.some.inj he_)))
  replace HF237 := Aside0.mk (Kd.F_grown (ok := (fun k_ => (w.heap.size ≤ k_) ∧ k_ ≠ g1 ∧ k_ ≠ g20 ∧ k_ ≠ g74 ∧ k_ ≠ g158 ∧ k_ ≠ g272)) HF237.out hg (fun k_ hk_ he_ => hk_.2.2.2.2.2 (Option.some.inj he_)))
  replace BKg1 := Aside0.mk (blk_grown (o := .cells #[.int .i64 a0_0, .int .i64 a0_1] 23 (0, 0)) BKg1.out hg (fun he_ => NEg1_g272.out (Option.some.inj he_)))
  replace BKg20 := Aside0.mk (blk_grown (o := .cells #[.int .i64 t7, .bool t8, .int .i64 t9, .string t10, .slice A15 t11.length cp15] 28 (0, 0)) BKg20.out hg (fun he_ => NEg20_g272.out (Option.some.inj he_)))
  replace BKg74 := Aside0.mk (blk_grown (o := .cells #[.int .i64 t51, .bool t52, .int .i64 t53, .string t54, .slice A59 t55.length cp59] 28 (0, 0)) BKg74.out hg (fun he_ => NEg74_g272.out (Option.some.inj he_)))
  replace BKg158 := Aside0.mk (blk_grown (o := .cells #[.int .i64 t125, .bool t126, .int .i64 t127, .string t128, .slice A133 t129.length cp133] 28 (0, 0)) BKg158.out hg (fun he_ => NEg158_g272.out (Option.some.inj he_)))
  replace HB := Aside0.mk (Below.grown HB.out hg (below_size HB.out) (fun k_ hk_ => by injection hk_ with hk_; rw [← hk_]; exact GEg272.out))
  replace BKg272 := Aside0.mk hbk
  clear hg hbk
  clear hz274 hz275 hf276 hf277 hz278 hz279 hz280 hz281 hz282 hf283 hf284 hf285 hf286 hf287 hz288 hz289 hz290 hz291 hz292 hf293 hf294 hf295 hf296 hf297 hz298 hz299 hz300 hz301 hz302 hf303 hf304 hf305 hf306 hf307 hz308 hz309 hz310 hz311 hz312 hf313 hf314 hf315 hf316 hf317
  have hz319 : w318.cell? ⟨g1, 0, none⟩ = some (.int .i64 a0_0) := (blk_cell BKg1.out 0).trans rfl
  have hz320 : w318.cell? ⟨g1, 1, none⟩ = some (.int .i64 a0_1) := (blk_cell BKg1.out 1).trans rfl
  have hf321 := blk_frozen BKg1.out 0
  have hf322 := blk_frozen BKg1.out 1
  have hz323 : w318.cell? ⟨g20, 0, none⟩ = some (.int .i64 t7) := (blk_cell BKg20.out 0).trans rfl
  have hz324 : w318.cell? ⟨g20, 1, none⟩ = some (.bool t8) := (blk_cell BKg20.out 1).trans rfl
  have hz325 : w318.cell? ⟨g20, 2, none⟩ = some (.int .i64 t9) := (blk_cell BKg20.out 2).trans rfl
  have hz326 : w318.cell? ⟨g20, 3, none⟩ = some (.string t10) := (blk_cell BKg20.out 3).trans rfl
  have hz327 : w318.cell? ⟨g20, 4, none⟩ = some (.slice A15 t11.length cp15) := (blk_cell BKg20.out 4).trans rfl
  have hf328 := blk_frozen BKg20.out 0
  have hf329 := blk_frozen BKg20.out 1
  have hf330 := blk_frozen BKg20.out 2
  have hf331 := blk_frozen BKg20.out 3
  have hf332 := blk_frozen BKg20.out 4
  have hz333 : w318.cell? ⟨g74, 0, none⟩ = some (.int .i64 t51) := (blk_cell BKg74.out 0).trans rfl
  have hz334 : w318.cell? ⟨g74, 1, none⟩ = some (.bool t52) := (blk_cell BKg74.out 1).trans rfl
  have hz335 : w318.cell? ⟨g74, 2, none⟩ = some (.int .i64 t53) := (blk_cell BKg74.out 2).trans rfl
  have hz336 : w318.cell? ⟨g74, 3, none⟩ = some (.string t54) := (blk_cell BKg74.out 3).trans rfl
  have hz337 : w318.cell? ⟨g74, 4, none⟩ = some (.slice A59 t55.length cp59) := (blk_cell BKg74.out 4).trans rfl
  have hf338 := blk_frozen BKg74.out 0
  have hf339 := blk_frozen BKg74.out 1
  have hf340 := blk_frozen BKg74.out 2
  have hf341 := blk_frozen BKg74.out 3
  have hf342 := blk_frozen BKg74.out 4
  have hz343 : w318.cell? ⟨g158, 0, none⟩ = some (.int .i64 t125) := (blk_cell BKg158.out 0).trans rfl
  have hz344 : w318.cell? ⟨g158, 1, none⟩ = some (.bool t126) := (blk_cell BKg158.out 1).trans rfl
  have hz345 : w318.cell? ⟨g158, 2, none⟩ = some (.int .i64 t127) := (blk_cell BKg158.out 2).trans rfl
  have hz346 : w318.cell? ⟨g158, 3, none⟩ = some (.string t128) := (blk_cell BKg158.out 3).trans rfl
  have hz347 : w318.cell? ⟨g158, 4, none⟩ = some (.slice A133 t129.length cp133) := (blk_cell BKg158.out 4).trans rfl
  have hf348 := blk_frozen BKg158.out 0
  have hf349 := blk_frozen BKg158.out 1
  have hf350 := blk_frozen BKg158.out 2
  have hf351 := blk_frozen BKg158.out 3
  have hf352 := blk_frozen BKg158.out 4
  have hz353 : w318.cell? ⟨g272, 0, none⟩ = some (.int .i64 t229) := (blk_cell BKg272.out 0).trans rfl
  have hz354 : w318.cell? ⟨g272, 1, none⟩ = some (.bool t230) := (blk_cell BKg272.out 1).trans rfl
  have hz355 : w318.cell? ⟨g272, 2, none⟩ = some (.int .i64 t231) := (blk_cell BKg272.out 2).trans rfl
  have hz356 : w318.cell? ⟨g272, 3, none⟩ = some (.string t232) := (blk_cell BKg272.out 3).trans rfl
  have hz357 : w318.cell? ⟨g272, 4, none⟩ = some (.slice A237 t233.length cp237) := (blk_cell BKg272.out 4).trans rfl
  have hf358 := blk_frozen BKg272.out 0
  have hf359 := blk_frozen BKg272.out 1
  have hf360 := blk_frozen BKg272.out 2
  have hf361 := blk_frozen BKg272.out 3
  have hf362 := blk_frozen BKg272.out 4
  have H := HH.out
  replace H := Option.bind_eq_some_iff.mp H
  obtain ⟨⟨t363, t364, t365, t366, t367, t368⟩, at_, H⟩ := H
  have At369 := Aside0.mk at_
  clear at_
  replace HH := Aside0.mk (show ((toponymref16_Text.f a0_0 a0_1 a2).bind fun bt527 => ((toponymref15_Same.f k t7 t8 t9 t10 t11 t51 t52 t53 t54 t55).bind fun t721 => (if t721 = true then (if t12 = t56 then ((toponymref15_Same.f k t125 t126 t127 t128 t129 t229 t230 t231 t232 t233).bind fun t792 => (if t792 = true then (if t130 = t234 then ((toponymref15_Same.f k t363 t364 t365 t366 t367 bt527.1 bt527.2.1 bt527.2.2.1 bt527.2.2.2.1 bt527.2.2.2.2.1).bind fun t863 => (if t863 = true then (if t368 = bt527.2.2.2.2.2 then ((toponymlaw16_awake.f k ).bind fun t934 => (some t934)) else (some false)) else (some false))) else (some false)) else (some false))) else (some false)) else (some false)))) = some r from H)
  clear H
  go_wp2_with (((with_reducible refine gate_callee (f := 19) rfl ?_); (try (refine gate_guard (by rfl) ?_; dsimp only)); refine goesL_ (some 63) rfl rfl Try.func19 (by kernel_rfl) rfl #[.int .i64 a0_0, .int .i64 a0_1, .string a2] rfl (by (try simp only [List.map_toArray, List.map_cons, List.map_nil]); first | done | rfl | (simp only [List.length_drop, List.length_take]; rfl)) ?_; (with_reducible refine (prims_Text.calls  a0_0 a0_1 a2 t363 t364 t365 t366 t367 t368 _  At369.out).mono ?_); rintro e w370 ⟨v371, rfl, hn371, hb⟩; refine ⟨_, rfl, ?_⟩); refine stop_ ?_)
  refine Stop.go ?_
  obtain ⟨A371, cp371, he_⟩ := Kd.N_slice hn371
  subst he_
  have HL371 := Aside0.mk (Kd.N_reads' hn371).2.1
  have HF371 := Aside0.mk (Kd.F_mono (Kd.N_F hn371) (fun k_ h_ => ⟨(Nat.le_trans (below_size HB.out) h_), Kd.freshB (o := .cells #[.int .i64 a0_0, .int .i64 a0_1] 23 (0, 0)) BKg1.out k_ h_, Kd.freshB (o := .cells #[.int .i64 t7, .bool t8, .int .i64 t9, .string t10, .slice A15 t11.length cp15] 28 (0, 0)) BKg20.out k_ h_, Kd.freshB (o := .cells #[.int .i64 t51, .bool t52, .int .i64 t53, .string t54, .slice A59 t55.length cp59] 28 (0, 0)) BKg74.out k_ h_, Kd.freshB (o := .cells #[.int .i64 t125, .bool t126, .int .i64 t127, .string t128, .slice A133 t129.length cp133] 28 (0, 0)) BKg158.out k_ h_, Kd.freshB (o := .cells #[.int .i64 t229, .bool t230, .int .i64 t231, .string t232, .slice A237 t233.length cp237] 28 (0, 0)) BKg272.out k_ h_⟩) : Kd.F k28 _ (fun k_ => (w.heap.size ≤ k_) ∧ k_ ≠ g1 ∧ k_ ≠ g20 ∧ k_ ≠ g74 ∧ k_ ≠ g158 ∧ k_ ≠ g272) _ _ _)
  clear hn371
  replace HF15 := Aside0.mk (Kd.F_below HF15.out hb)
  replace HF59 := Aside0.mk (Kd.F_below HF59.out hb)
  replace HF133 := Aside0.mk (Kd.F_below HF133.out hb)
  replace HF237 := Aside0.mk (Kd.F_below HF237.out hb)
  replace BKg1 := Aside0.mk (blk_below (o := .cells #[.int .i64 a0_0, .int .i64 a0_1] 23 (0, 0)) BKg1.out hb)
  replace BKg20 := Aside0.mk (blk_below (o := .cells #[.int .i64 t7, .bool t8, .int .i64 t9, .string t10, .slice A15 t11.length cp15] 28 (0, 0)) BKg20.out hb)
  replace BKg74 := Aside0.mk (blk_below (o := .cells #[.int .i64 t51, .bool t52, .int .i64 t53, .string t54, .slice A59 t55.length cp59] 28 (0, 0)) BKg74.out hb)
  replace BKg158 := Aside0.mk (blk_below (o := .cells #[.int .i64 t125, .bool t126, .int .i64 t127, .string t128, .slice A133 t129.length cp133] 28 (0, 0)) BKg158.out hb)
  replace BKg272 := Aside0.mk (blk_below (o := .cells #[.int .i64 t229, .bool t230, .int .i64 t231, .string t232, .slice A237 t233.length cp237] 28 (0, 0)) BKg272.out hb)
  replace HB := Aside0.mk (below_step HB.out hb)
  clear hb
  clear hz319 hz320 hf321 hf322 hz323 hz324 hz325 hz326 hz327 hf328 hf329 hf330 hf331 hf332 hz333 hz334 hz335 hz336 hz337 hf338 hf339 hf340 hf341 hf342 hz343 hz344 hz345 hz346 hz347 hf348 hf349 hf350 hf351 hf352 hz353 hz354 hz355 hz356 hz357 hf358 hf359 hf360 hf361 hf362
  have hz372 : w370.cell? ⟨g1, 0, none⟩ = some (.int .i64 a0_0) := (blk_cell BKg1.out 0).trans rfl
  have hz373 : w370.cell? ⟨g1, 1, none⟩ = some (.int .i64 a0_1) := (blk_cell BKg1.out 1).trans rfl
  have hf374 := blk_frozen BKg1.out 0
  have hf375 := blk_frozen BKg1.out 1
  have hz376 : w370.cell? ⟨g20, 0, none⟩ = some (.int .i64 t7) := (blk_cell BKg20.out 0).trans rfl
  have hz377 : w370.cell? ⟨g20, 1, none⟩ = some (.bool t8) := (blk_cell BKg20.out 1).trans rfl
  have hz378 : w370.cell? ⟨g20, 2, none⟩ = some (.int .i64 t9) := (blk_cell BKg20.out 2).trans rfl
  have hz379 : w370.cell? ⟨g20, 3, none⟩ = some (.string t10) := (blk_cell BKg20.out 3).trans rfl
  have hz380 : w370.cell? ⟨g20, 4, none⟩ = some (.slice A15 t11.length cp15) := (blk_cell BKg20.out 4).trans rfl
  have hf381 := blk_frozen BKg20.out 0
  have hf382 := blk_frozen BKg20.out 1
  have hf383 := blk_frozen BKg20.out 2
  have hf384 := blk_frozen BKg20.out 3
  have hf385 := blk_frozen BKg20.out 4
  have hz386 : w370.cell? ⟨g74, 0, none⟩ = some (.int .i64 t51) := (blk_cell BKg74.out 0).trans rfl
  have hz387 : w370.cell? ⟨g74, 1, none⟩ = some (.bool t52) := (blk_cell BKg74.out 1).trans rfl
  have hz388 : w370.cell? ⟨g74, 2, none⟩ = some (.int .i64 t53) := (blk_cell BKg74.out 2).trans rfl
  have hz389 : w370.cell? ⟨g74, 3, none⟩ = some (.string t54) := (blk_cell BKg74.out 3).trans rfl
  have hz390 : w370.cell? ⟨g74, 4, none⟩ = some (.slice A59 t55.length cp59) := (blk_cell BKg74.out 4).trans rfl
  have hf391 := blk_frozen BKg74.out 0
  have hf392 := blk_frozen BKg74.out 1
  have hf393 := blk_frozen BKg74.out 2
  have hf394 := blk_frozen BKg74.out 3
  have hf395 := blk_frozen BKg74.out 4
  have hz396 : w370.cell? ⟨g158, 0, none⟩ = some (.int .i64 t125) := (blk_cell BKg158.out 0).trans rfl
  have hz397 : w370.cell? ⟨g158, 1, none⟩ = some (.bool t126) := (blk_cell BKg158.out 1).trans rfl
  have hz398 : w370.cell? ⟨g158, 2, none⟩ = some (.int .i64 t127) := (blk_cell BKg158.out 2).trans rfl
  have hz399 : w370.cell? ⟨g158, 3, none⟩ = some (.string t128) := (blk_cell BKg158.out 3).trans rfl
  have hz400 : w370.cell? ⟨g158, 4, none⟩ = some (.slice A133 t129.length cp133) := (blk_cell BKg158.out 4).trans rfl
  have hf401 := blk_frozen BKg158.out 0
  have hf402 := blk_frozen BKg158.out 1
  have hf403 := blk_frozen BKg158.out 2
  have hf404 := blk_frozen BKg158.out 3
  have hf405 := blk_frozen BKg158.out 4
  have hz406 : w370.cell? ⟨g272, 0, none⟩ = some (.int .i64 t229) := (blk_cell BKg272.out 0).trans rfl
  have hz407 : w370.cell? ⟨g272, 1, none⟩ = some (.bool t230) := (blk_cell BKg272.out 1).trans rfl
  have hz408 : w370.cell? ⟨g272, 2, none⟩ = some (.int .i64 t231) := (blk_cell BKg272.out 2).trans rfl
  have hz409 : w370.cell? ⟨g272, 3, none⟩ = some (.string t232) := (blk_cell BKg272.out 3).trans rfl
  have hz410 : w370.cell? ⟨g272, 4, none⟩ = some (.slice A237 t233.length cp237) := (blk_cell BKg272.out 4).trans rfl
  have hf411 := blk_frozen BKg272.out 0
  have hf412 := blk_frozen BKg272.out 1
  have hf413 := blk_frozen BKg272.out 2
  have hf414 := blk_frozen BKg272.out 3
  have hf415 := blk_frozen BKg272.out 4
  go_wp2_with (((with_reducible refine gate_dst (N := 15) rfl ?_); (try (refine gate_guard (by rfl) ?_; dsimp only)); refine box_event ?hg (N := 15) ?hd (cs := #[.int .i64 0, .bool false, .int .i64 0, .string (⟨#[]⟩ : ByteArray), .slice none 0 0]) (t := 28) ?hr ?_; (case hd => rfl); (case hg => rfl); (case hr => first | (go_simp; done) | (go_simp; rfl)); intro g416 hg w417 hbox hb); replace hg := Aside0.mk hg; replace hbox := Aside0.mk hbox; refine stop_ ?_)
  refine Stop.go ?_
  replace hg := hg.out
  replace hbox := hbox.out
  have GEg416 := Aside0.mk (by rw [hg]; exact (below_size HB.out) : w.heap.size ≤ g416)
  replace HF15 := Aside0.mk (Kd.F_elderB HF15.out g416 (Nat.le_of_eq hg.symm))
  replace HF15 := Aside0.mk (Kd.F_mono HF15.out (fun k_ hk_ => ⟨hk_.1.1, hk_.1.2.1, hk_.1.2.2.1, hk_.1.2.2.2.1, hk_.1.2.2.2.2.1, hk_.1.2.2.2.2.2, hk_.2⟩) : Kd.F k28 _ (fun k_ => (w.heap.size ≤ k_) ∧ k_ ≠ g1 ∧ k_ ≠ g20 ∧ k_ ≠ g74 ∧ k_ ≠ g158 ∧ k_ ≠ g272 ∧ k_ ≠ g416) _ _ _)
  replace HF59 := Aside0.mk (Kd.F_elderB HF59.out g416 (Nat.le_of_eq hg.symm))
  replace HF59 := Aside0.mk (Kd.F_mono HF59.out (fun k_ hk_ => ⟨hk_.1.1, hk_.1.2.1, hk_.1.2.2.1, hk_.1.2.2.2.1, hk_.1.2.2.2.2.1, hk_.1.2.2.2.2.2, hk_.2⟩) : Kd.F k28 _ (fun k_ => (w.heap.size ≤ k_) ∧ k_ ≠ g1 ∧ k_ ≠ g20 ∧ k_ ≠ g74 ∧ k_ ≠ g158 ∧ k_ ≠ g272 ∧ k_ ≠ g416) _ _ _)
  replace HF133 := Aside0.mk (Kd.F_elderB HF133.out g416 (Nat.le_of_eq hg.symm))
  replace HF133 := Aside0.mk (Kd.F_mono HF133.out (fun k_ hk_ => ⟨hk_.1.1, hk_.1.2.1, hk_.1.2.2.1, hk_.1.2.2.2.1, hk_.1.2.2.2.2.1, hk_.1.2.2.2.2.2, hk_.2⟩) : Kd.F k28 _ (fun k_ => (w.heap.size ≤ k_) ∧ k_ ≠ g1 ∧ k_ ≠ g20 ∧ k_ ≠ g74 ∧ k_ ≠ g158 ∧ k_ ≠ g272 ∧ k_ ≠ g416) _ _ _)
  replace HF237 := Aside0.mk (Kd.F_elderB HF237.out g416 (Nat.le_of_eq hg.symm))
  replace HF237 := Aside0.mk (Kd.F_mono HF237.out (fun k_ hk_ => ⟨hk_.1.1, hk_.1.2.1, hk_.1.2.2.1, hk_.1.2.2.2.1, hk_.1.2.2.2.2.1, hk_.1.2.2.2.2.2, hk_.2⟩) : Kd.F k28 _ (fun k_ => (w.heap.size ≤ k_) ∧ k_ ≠ g1 ∧ k_ ≠ g20 ∧ k_ ≠ g74 ∧ k_ ≠ g158 ∧ k_ ≠ g272 ∧ k_ ≠ g416) _ _ _)
  replace HF371 := Aside0.mk (Kd.F_elderB HF371.out g416 (Nat.le_of_eq hg.symm))
  replace HF371 := Aside0.mk (Kd.F_mono HF371.out (fun k_ hk_ => ⟨hk_.1.1, hk_.1.2.1, hk_.1.2.2.1, hk_.1.2.2.2.1, hk_.1.2.2.2.2.1, hk_.1.2.2.2.2.2, hk_.2⟩) : Kd.F k28 _ (fun k_ => (w.heap.size ≤ k_) ∧ k_ ≠ g1 ∧ k_ ≠ g20 ∧ k_ ≠ g74 ∧ k_ ≠ g158 ∧ k_ ≠ g272 ∧ k_ ≠ g416) _ _ _)
  have NEg1_g416 := Aside0.mk (by rw [hg]; exact Nat.ne_of_lt (blk_lt (o := .cells #[.int .i64 a0_0, .int .i64 a0_1] 23 (0, 0)) BKg1.out) : g1 ≠ g416)
  have NEg416_g1 := Aside0.mk (Ne.symm NEg1_g416.out)
  have NEg20_g416 := Aside0.mk (by rw [hg]; exact Nat.ne_of_lt (blk_lt (o := .cells #[.int .i64 t7, .bool t8, .int .i64 t9, .string t10, .slice A15 t11.length cp15] 28 (0, 0)) BKg20.out) : g20 ≠ g416)
  have NEg416_g20 := Aside0.mk (Ne.symm NEg20_g416.out)
  have NEg74_g416 := Aside0.mk (by rw [hg]; exact Nat.ne_of_lt (blk_lt (o := .cells #[.int .i64 t51, .bool t52, .int .i64 t53, .string t54, .slice A59 t55.length cp59] 28 (0, 0)) BKg74.out) : g74 ≠ g416)
  have NEg416_g74 := Aside0.mk (Ne.symm NEg74_g416.out)
  have NEg158_g416 := Aside0.mk (by rw [hg]; exact Nat.ne_of_lt (blk_lt (o := .cells #[.int .i64 t125, .bool t126, .int .i64 t127, .string t128, .slice A133 t129.length cp133] 28 (0, 0)) BKg158.out) : g158 ≠ g416)
  have NEg416_g158 := Aside0.mk (Ne.symm NEg158_g416.out)
  have NEg272_g416 := Aside0.mk (by rw [hg]; exact Nat.ne_of_lt (blk_lt (o := .cells #[.int .i64 t229, .bool t230, .int .i64 t231, .string t232, .slice A237 t233.length cp237] 28 (0, 0)) BKg272.out) : g272 ≠ g416)
  have NEg416_g272 := Aside0.mk (Ne.symm NEg272_g416.out)
  replace HF15 := Aside0.mk (Kd.F_below HF15.out hb)
  replace HF59 := Aside0.mk (Kd.F_below HF59.out hb)
  replace HF133 := Aside0.mk (Kd.F_below HF133.out hb)
  replace HF237 := Aside0.mk (Kd.F_below HF237.out hb)
  replace HF371 := Aside0.mk (Kd.F_below HF371.out hb)
  replace BKg1 := Aside0.mk (blk_below (o := .cells #[.int .i64 a0_0, .int .i64 a0_1] 23 (0, 0)) BKg1.out hb)
  replace BKg20 := Aside0.mk (blk_below (o := .cells #[.int .i64 t7, .bool t8, .int .i64 t9, .string t10, .slice A15 t11.length cp15] 28 (0, 0)) BKg20.out hb)
  replace BKg74 := Aside0.mk (blk_below (o := .cells #[.int .i64 t51, .bool t52, .int .i64 t53, .string t54, .slice A59 t55.length cp59] 28 (0, 0)) BKg74.out hb)
  replace BKg158 := Aside0.mk (blk_below (o := .cells #[.int .i64 t125, .bool t126, .int .i64 t127, .string t128, .slice A133 t129.length cp133] 28 (0, 0)) BKg158.out hb)
  replace BKg272 := Aside0.mk (blk_below (o := .cells #[.int .i64 t229, .bool t230, .int .i64 t231, .string t232, .slice A237 t233.length cp237] 28 (0, 0)) BKg272.out hb)
  replace HB := Aside0.mk (below_step HB.out hb)
  have BKg416 := Aside0.mk hbox
  clear hg hbox hb
  clear hz372 hz373 hf374 hf375 hz376 hz377 hz378 hz379 hz380 hf381 hf382 hf383 hf384 hf385 hz386 hz387 hz388 hz389 hz390 hf391 hf392 hf393 hf394 hf395 hz396 hz397 hz398 hz399 hz400 hf401 hf402 hf403 hf404 hf405 hz406 hz407 hz408 hz409 hz410 hf411 hf412 hf413 hf414 hf415
  have hz418 : w417.cell? ⟨g1, 0, none⟩ = some (.int .i64 a0_0) := (blk_cell BKg1.out 0).trans rfl
  have hz419 : w417.cell? ⟨g1, 1, none⟩ = some (.int .i64 a0_1) := (blk_cell BKg1.out 1).trans rfl
  have hf420 := blk_frozen BKg1.out 0
  have hf421 := blk_frozen BKg1.out 1
  have hz422 : w417.cell? ⟨g20, 0, none⟩ = some (.int .i64 t7) := (blk_cell BKg20.out 0).trans rfl
  have hz423 : w417.cell? ⟨g20, 1, none⟩ = some (.bool t8) := (blk_cell BKg20.out 1).trans rfl
  have hz424 : w417.cell? ⟨g20, 2, none⟩ = some (.int .i64 t9) := (blk_cell BKg20.out 2).trans rfl
  have hz425 : w417.cell? ⟨g20, 3, none⟩ = some (.string t10) := (blk_cell BKg20.out 3).trans rfl
  have hz426 : w417.cell? ⟨g20, 4, none⟩ = some (.slice A15 t11.length cp15) := (blk_cell BKg20.out 4).trans rfl
  have hf427 := blk_frozen BKg20.out 0
  have hf428 := blk_frozen BKg20.out 1
  have hf429 := blk_frozen BKg20.out 2
  have hf430 := blk_frozen BKg20.out 3
  have hf431 := blk_frozen BKg20.out 4
  have hz432 : w417.cell? ⟨g74, 0, none⟩ = some (.int .i64 t51) := (blk_cell BKg74.out 0).trans rfl
  have hz433 : w417.cell? ⟨g74, 1, none⟩ = some (.bool t52) := (blk_cell BKg74.out 1).trans rfl
  have hz434 : w417.cell? ⟨g74, 2, none⟩ = some (.int .i64 t53) := (blk_cell BKg74.out 2).trans rfl
  have hz435 : w417.cell? ⟨g74, 3, none⟩ = some (.string t54) := (blk_cell BKg74.out 3).trans rfl
  have hz436 : w417.cell? ⟨g74, 4, none⟩ = some (.slice A59 t55.length cp59) := (blk_cell BKg74.out 4).trans rfl
  have hf437 := blk_frozen BKg74.out 0
  have hf438 := blk_frozen BKg74.out 1
  have hf439 := blk_frozen BKg74.out 2
  have hf440 := blk_frozen BKg74.out 3
  have hf441 := blk_frozen BKg74.out 4
  have hz442 : w417.cell? ⟨g158, 0, none⟩ = some (.int .i64 t125) := (blk_cell BKg158.out 0).trans rfl
  have hz443 : w417.cell? ⟨g158, 1, none⟩ = some (.bool t126) := (blk_cell BKg158.out 1).trans rfl
  have hz444 : w417.cell? ⟨g158, 2, none⟩ = some (.int .i64 t127) := (blk_cell BKg158.out 2).trans rfl
  have hz445 : w417.cell? ⟨g158, 3, none⟩ = some (.string t128) := (blk_cell BKg158.out 3).trans rfl
  have hz446 : w417.cell? ⟨g158, 4, none⟩ = some (.slice A133 t129.length cp133) := (blk_cell BKg158.out 4).trans rfl
  have hf447 := blk_frozen BKg158.out 0
  have hf448 := blk_frozen BKg158.out 1
  have hf449 := blk_frozen BKg158.out 2
  have hf450 := blk_frozen BKg158.out 3
  have hf451 := blk_frozen BKg158.out 4
  have hz452 : w417.cell? ⟨g272, 0, none⟩ = some (.int .i64 t229) := (blk_cell BKg272.out 0).trans rfl
  have hz453 : w417.cell? ⟨g272, 1, none⟩ = some (.bool t230) := (blk_cell BKg272.out 1).trans rfl
  have hz454 : w417.cell? ⟨g272, 2, none⟩ = some (.int .i64 t231) := (blk_cell BKg272.out 2).trans rfl
  have hz455 : w417.cell? ⟨g272, 3, none⟩ = some (.string t232) := (blk_cell BKg272.out 3).trans rfl
  have hz456 : w417.cell? ⟨g272, 4, none⟩ = some (.slice A237 t233.length cp237) := (blk_cell BKg272.out 4).trans rfl
  have hf457 := blk_frozen BKg272.out 0
  have hf458 := blk_frozen BKg272.out 1
  have hf459 := blk_frozen BKg272.out 2
  have hf460 := blk_frozen BKg272.out 3
  have hf461 := blk_frozen BKg272.out 4
  have hz462 : w417.cell? ⟨g416, 0, none⟩ = some (.int .i64 0) := (blk_cell BKg416.out 0).trans rfl
  have hz463 : w417.cell? ⟨g416, 1, none⟩ = some (.bool false) := (blk_cell BKg416.out 1).trans rfl
  have hz464 : w417.cell? ⟨g416, 2, none⟩ = some (.int .i64 0) := (blk_cell BKg416.out 2).trans rfl
  have hz465 : w417.cell? ⟨g416, 3, none⟩ = some (.string (⟨#[]⟩ : ByteArray)) := (blk_cell BKg416.out 3).trans rfl
  have hz466 : w417.cell? ⟨g416, 4, none⟩ = some (.slice none 0 0) := (blk_cell BKg416.out 4).trans rfl
  have hf467 := blk_frozen BKg416.out 0
  have hf468 := blk_frozen BKg416.out 1
  have hf469 := blk_frozen BKg416.out 2
  have hf470 := blk_frozen BKg416.out 3
  have hf471 := blk_frozen BKg416.out 4
  go_wp2_with (((with_reducible refine gate_store (t := 28) (p := 15) rfl ?_); (try (refine gate_guard (by rfl) ?_; dsimp only)); refine MW.ev_store #[.int .i64 t363, .bool t364, .int .i64 t365, .string t366, .slice A371 t367.length cp371] rfl rfl rfl rfl (cs := #[.int .i64 0, .bool false, .int .i64 0, .string (⟨#[]⟩ : ByteArray), .slice none 0 0]) (ty := 28) BKg416.out [.int .i64 t363, .bool t364, .int .i64 t365, .string t366, .slice A371 t367.length cp371] rfl (by kernel_rfl) (by simp) (by simp [Value.oneCell']) rfl ?_; intro w472 hbk hg); replace hbk := Aside0.mk hbk; refine stop_ ?_)
  refine Stop.go ?_
  replace hbk := hbk.out
  replace HF15 := Aside0.mk (Kd.F_grown (ok := (fun k_ => (w.heap.size ≤ k_) ∧ k_ ≠ g1 ∧ k_ ≠ g20 ∧ k_ ≠ g74 ∧ k_ ≠ g158 ∧ k_ ≠ g272 ∧ k_ ≠ g416)) HF15.out hg (fun k_ hk_ he_ => hk_.2.2.2.2.2.2 (Option.some.inj he_)))
  replace HF59 := Aside0.mk (Kd.F_grown (ok := (fun k_ => (w.heap.size ≤ k_) ∧ k_ ≠ g1 ∧ k_ ≠ g20 ∧ k_ ≠ g74 ∧ k_ ≠ g158 ∧ k_ ≠ g272 ∧ k_ ≠ g416)) HF59.out hg (fun k_ hk_ he_ => hk_.2.2.2.2.2.2 (Option.some.inj he_)))
  replace HF133 := Aside0.mk (Kd.F_grown (ok := (fun k_ => (w.heap.size ≤ k_) ∧ k_ ≠ g1 ∧ k_ ≠ g20 ∧ k_ ≠ g74 ∧ k_ ≠ g158 ∧ k_ ≠ g272 ∧ k_ ≠ g416)) HF133.out hg (fun k_ hk_ he_ => hk_.2.2.2.2.2.2 (Option.some.inj he_)))
  replace HF237 := Aside0.mk (Kd.F_grown (ok := (fun k_ => (w.heap.size ≤ k_) ∧ k_ ≠ g1 ∧ k_ ≠ g20 ∧ k_ ≠ g74 ∧ k_ ≠ g158 ∧ k_ ≠ g272 ∧ k_ ≠ g416)) HF237.out hg (fun k_ hk_ he_ => hk_.2.2.2.2.2.2 (Option.some.inj he_)))
  replace HF371 := Aside0.mk (Kd.F_grown (ok := (fun k_ => (w.heap.size ≤ k_) ∧ k_ ≠ g1 ∧ k_ ≠ g20 ∧ k_ ≠ g74 ∧ k_ ≠ g158 ∧ k_ ≠ g272 ∧ k_ ≠ g416)) HF371.out hg (fun k_ hk_ he_ => hk_.2.2.2.2.2.2 (Option.some.inj he_)))
  replace BKg1 := Aside0.mk (blk_grown (o := .cells #[.int .i64 a0_0, .int .i64 a0_1] 23 (0, 0)) BKg1.out hg (fun he_ => NEg1_g416.out (Option.some.inj he_)))
  replace BKg20 := Aside0.mk (blk_grown (o := .cells #[.int .i64 t7, .bool t8, .int .i64 t9, .string t10, .slice A15 t11.length cp15] 28 (0, 0)) BKg20.out hg (fun he_ => NEg20_g416.out (Option.some.inj he_)))
  replace BKg74 := Aside0.mk (blk_grown (o := .cells #[.int .i64 t51, .bool t52, .int .i64 t53, .string t54, .slice A59 t55.length cp59] 28 (0, 0)) BKg74.out hg (fun he_ => NEg74_g416.out (Option.some.inj he_)))
  replace BKg158 := Aside0.mk (blk_grown (o := .cells #[.int .i64 t125, .bool t126, .int .i64 t127, .string t128, .slice A133 t129.length cp133] 28 (0, 0)) BKg158.out hg (fun he_ => NEg158_g416.out (Option.some.inj he_)))
  replace BKg272 := Aside0.mk (blk_grown (o := .cells #[.int .i64 t229, .bool t230, .int .i64 t231, .string t232, .slice A237 t233.length cp237] 28 (0, 0)) BKg272.out hg (fun he_ => NEg272_g416.out (Option.some.inj he_)))
  replace HB := Aside0.mk (Below.grown HB.out hg (below_size HB.out) (fun k_ hk_ => by injection hk_ with hk_; rw [← hk_]; exact GEg416.out))
  replace BKg416 := Aside0.mk hbk
  clear hg hbk
  clear hz418 hz419 hf420 hf421 hz422 hz423 hz424 hz425 hz426 hf427 hf428 hf429 hf430 hf431 hz432 hz433 hz434 hz435 hz436 hf437 hf438 hf439 hf440 hf441 hz442 hz443 hz444 hz445 hz446 hf447 hf448 hf449 hf450 hf451 hz452 hz453 hz454 hz455 hz456 hf457 hf458 hf459 hf460 hf461 hz462 hz463 hz464 hz465 hz466 hf467 hf468 hf469 hf470 hf471
  have hz473 : w472.cell? ⟨g1, 0, none⟩ = some (.int .i64 a0_0) := (blk_cell BKg1.out 0).trans rfl
  have hz474 : w472.cell? ⟨g1, 1, none⟩ = some (.int .i64 a0_1) := (blk_cell BKg1.out 1).trans rfl
  have hf475 := blk_frozen BKg1.out 0
  have hf476 := blk_frozen BKg1.out 1
  have hz477 : w472.cell? ⟨g20, 0, none⟩ = some (.int .i64 t7) := (blk_cell BKg20.out 0).trans rfl
  have hz478 : w472.cell? ⟨g20, 1, none⟩ = some (.bool t8) := (blk_cell BKg20.out 1).trans rfl
  have hz479 : w472.cell? ⟨g20, 2, none⟩ = some (.int .i64 t9) := (blk_cell BKg20.out 2).trans rfl
  have hz480 : w472.cell? ⟨g20, 3, none⟩ = some (.string t10) := (blk_cell BKg20.out 3).trans rfl
  have hz481 : w472.cell? ⟨g20, 4, none⟩ = some (.slice A15 t11.length cp15) := (blk_cell BKg20.out 4).trans rfl
  have hf482 := blk_frozen BKg20.out 0
  have hf483 := blk_frozen BKg20.out 1
  have hf484 := blk_frozen BKg20.out 2
  have hf485 := blk_frozen BKg20.out 3
  have hf486 := blk_frozen BKg20.out 4
  have hz487 : w472.cell? ⟨g74, 0, none⟩ = some (.int .i64 t51) := (blk_cell BKg74.out 0).trans rfl
  have hz488 : w472.cell? ⟨g74, 1, none⟩ = some (.bool t52) := (blk_cell BKg74.out 1).trans rfl
  have hz489 : w472.cell? ⟨g74, 2, none⟩ = some (.int .i64 t53) := (blk_cell BKg74.out 2).trans rfl
  have hz490 : w472.cell? ⟨g74, 3, none⟩ = some (.string t54) := (blk_cell BKg74.out 3).trans rfl
  have hz491 : w472.cell? ⟨g74, 4, none⟩ = some (.slice A59 t55.length cp59) := (blk_cell BKg74.out 4).trans rfl
  have hf492 := blk_frozen BKg74.out 0
  have hf493 := blk_frozen BKg74.out 1
  have hf494 := blk_frozen BKg74.out 2
  have hf495 := blk_frozen BKg74.out 3
  have hf496 := blk_frozen BKg74.out 4
  have hz497 : w472.cell? ⟨g158, 0, none⟩ = some (.int .i64 t125) := (blk_cell BKg158.out 0).trans rfl
  have hz498 : w472.cell? ⟨g158, 1, none⟩ = some (.bool t126) := (blk_cell BKg158.out 1).trans rfl
  have hz499 : w472.cell? ⟨g158, 2, none⟩ = some (.int .i64 t127) := (blk_cell BKg158.out 2).trans rfl
  have hz500 : w472.cell? ⟨g158, 3, none⟩ = some (.string t128) := (blk_cell BKg158.out 3).trans rfl
  have hz501 : w472.cell? ⟨g158, 4, none⟩ = some (.slice A133 t129.length cp133) := (blk_cell BKg158.out 4).trans rfl
  have hf502 := blk_frozen BKg158.out 0
  have hf503 := blk_frozen BKg158.out 1
  have hf504 := blk_frozen BKg158.out 2
  have hf505 := blk_frozen BKg158.out 3
  have hf506 := blk_frozen BKg158.out 4
  have hz507 : w472.cell? ⟨g272, 0, none⟩ = some (.int .i64 t229) := (blk_cell BKg272.out 0).trans rfl
  have hz508 : w472.cell? ⟨g272, 1, none⟩ = some (.bool t230) := (blk_cell BKg272.out 1).trans rfl
  have hz509 : w472.cell? ⟨g272, 2, none⟩ = some (.int .i64 t231) := (blk_cell BKg272.out 2).trans rfl
  have hz510 : w472.cell? ⟨g272, 3, none⟩ = some (.string t232) := (blk_cell BKg272.out 3).trans rfl
  have hz511 : w472.cell? ⟨g272, 4, none⟩ = some (.slice A237 t233.length cp237) := (blk_cell BKg272.out 4).trans rfl
  have hf512 := blk_frozen BKg272.out 0
  have hf513 := blk_frozen BKg272.out 1
  have hf514 := blk_frozen BKg272.out 2
  have hf515 := blk_frozen BKg272.out 3
  have hf516 := blk_frozen BKg272.out 4
  have hz517 : w472.cell? ⟨g416, 0, none⟩ = some (.int .i64 t363) := (blk_cell BKg416.out 0).trans rfl
  have hz518 : w472.cell? ⟨g416, 1, none⟩ = some (.bool t364) := (blk_cell BKg416.out 1).trans rfl
  have hz519 : w472.cell? ⟨g416, 2, none⟩ = some (.int .i64 t365) := (blk_cell BKg416.out 2).trans rfl
  have hz520 : w472.cell? ⟨g416, 3, none⟩ = some (.string t366) := (blk_cell BKg416.out 3).trans rfl
  have hz521 : w472.cell? ⟨g416, 4, none⟩ = some (.slice A371 t367.length cp371) := (blk_cell BKg416.out 4).trans rfl
  have hf522 := blk_frozen BKg416.out 0
  have hf523 := blk_frozen BKg416.out 1
  have hf524 := blk_frozen BKg416.out 2
  have hf525 := blk_frozen BKg416.out 3
  have hf526 := blk_frozen BKg416.out 4
  have H := HH.out
  replace H := Option.bind_eq_some_iff.mp H
  obtain ⟨⟨t527, t528, t529, t530, t531, t532⟩, at_, H⟩ := H
  have At533 := Aside0.mk at_
  clear at_
  replace HH := Aside0.mk (show ((toponymref15_Same.f k t7 t8 t9 t10 t11 t51 t52 t53 t54 t55).bind fun t721 => (if t721 = true then (if t12 = t56 then ((toponymref15_Same.f k t125 t126 t127 t128 t129 t229 t230 t231 t232 t233).bind fun t792 => (if t792 = true then (if t130 = t234 then ((toponymref15_Same.f k t363 t364 t365 t366 t367 t527 t528 t529 t530 t531).bind fun t863 => (if t863 = true then (if t368 = t532 then ((toponymlaw16_awake.f k ).bind fun t934 => (some t934)) else (some false)) else (some false))) else (some false)) else (some false))) else (some false)) else (some false))) = some r from H)
  clear H
  go_wp2_with (((with_reducible refine gate_callee (f := 20) rfl ?_); (try (refine gate_guard (by rfl) ?_; dsimp only)); refine goesL_ (some 72) rfl rfl Try.func20 (by kernel_rfl) rfl #[.int .i64 a0_0, .int .i64 a0_1, .string a2] rfl (by (try simp only [List.map_toArray, List.map_cons, List.map_nil]); first | done | rfl | (simp only [List.length_drop, List.length_take]; rfl)) ?_; (with_reducible refine (toponymref16_Text.calls  a0_0 a0_1 a2 t527 t528 t529 t530 t531 t532 _  At533.out).mono ?_); rintro e w534 ⟨A535, cp535, rfl, hl535, hn535, hb⟩; refine ⟨_, rfl, ?_⟩); refine stop_ ?_)
  refine Stop.go ?_
  have HL535 := Aside0.mk hl535
  have HF535 := Aside0.mk (Kd.F_mono hn535 (fun k_ h_ => ⟨(Nat.le_trans (below_size HB.out) h_), Kd.freshB (o := .cells #[.int .i64 a0_0, .int .i64 a0_1] 23 (0, 0)) BKg1.out k_ h_, Kd.freshB (o := .cells #[.int .i64 t7, .bool t8, .int .i64 t9, .string t10, .slice A15 t11.length cp15] 28 (0, 0)) BKg20.out k_ h_, Kd.freshB (o := .cells #[.int .i64 t51, .bool t52, .int .i64 t53, .string t54, .slice A59 t55.length cp59] 28 (0, 0)) BKg74.out k_ h_, Kd.freshB (o := .cells #[.int .i64 t125, .bool t126, .int .i64 t127, .string t128, .slice A133 t129.length cp133] 28 (0, 0)) BKg158.out k_ h_, Kd.freshB (o := .cells #[.int .i64 t229, .bool t230, .int .i64 t231, .string t232, .slice A237 t233.length cp237] 28 (0, 0)) BKg272.out k_ h_, Kd.freshB (o := .cells #[.int .i64 t363, .bool t364, .int .i64 t365, .string t366, .slice A371 t367.length cp371] 28 (0, 0)) BKg416.out k_ h_⟩) : Kd.F k28 _ (fun k_ => (w.heap.size ≤ k_) ∧ k_ ≠ g1 ∧ k_ ≠ g20 ∧ k_ ≠ g74 ∧ k_ ≠ g158 ∧ k_ ≠ g272 ∧ k_ ≠ g416) _ _ _)
  clear hn535 hl535
  replace HF15 := Aside0.mk (Kd.F_below HF15.out hb)
  replace HF59 := Aside0.mk (Kd.F_below HF59.out hb)
  replace HF133 := Aside0.mk (Kd.F_below HF133.out hb)
  replace HF237 := Aside0.mk (Kd.F_below HF237.out hb)
  replace HF371 := Aside0.mk (Kd.F_below HF371.out hb)
  replace BKg1 := Aside0.mk (blk_below (o := .cells #[.int .i64 a0_0, .int .i64 a0_1] 23 (0, 0)) BKg1.out hb)
  replace BKg20 := Aside0.mk (blk_below (o := .cells #[.int .i64 t7, .bool t8, .int .i64 t9, .string t10, .slice A15 t11.length cp15] 28 (0, 0)) BKg20.out hb)
  replace BKg74 := Aside0.mk (blk_below (o := .cells #[.int .i64 t51, .bool t52, .int .i64 t53, .string t54, .slice A59 t55.length cp59] 28 (0, 0)) BKg74.out hb)
  replace BKg158 := Aside0.mk (blk_below (o := .cells #[.int .i64 t125, .bool t126, .int .i64 t127, .string t128, .slice A133 t129.length cp133] 28 (0, 0)) BKg158.out hb)
  replace BKg272 := Aside0.mk (blk_below (o := .cells #[.int .i64 t229, .bool t230, .int .i64 t231, .string t232, .slice A237 t233.length cp237] 28 (0, 0)) BKg272.out hb)
  replace BKg416 := Aside0.mk (blk_below (o := .cells #[.int .i64 t363, .bool t364, .int .i64 t365, .string t366, .slice A371 t367.length cp371] 28 (0, 0)) BKg416.out hb)
  replace HB := Aside0.mk (below_step HB.out hb)
  clear hb
  clear hz473 hz474 hf475 hf476 hz477 hz478 hz479 hz480 hz481 hf482 hf483 hf484 hf485 hf486 hz487 hz488 hz489 hz490 hz491 hf492 hf493 hf494 hf495 hf496 hz497 hz498 hz499 hz500 hz501 hf502 hf503 hf504 hf505 hf506 hz507 hz508 hz509 hz510 hz511 hf512 hf513 hf514 hf515 hf516 hz517 hz518 hz519 hz520 hz521 hf522 hf523 hf524 hf525 hf526
  have hz536 : w534.cell? ⟨g1, 0, none⟩ = some (.int .i64 a0_0) := (blk_cell BKg1.out 0).trans rfl
  have hz537 : w534.cell? ⟨g1, 1, none⟩ = some (.int .i64 a0_1) := (blk_cell BKg1.out 1).trans rfl
  have hf538 := blk_frozen BKg1.out 0
  have hf539 := blk_frozen BKg1.out 1
  have hz540 : w534.cell? ⟨g20, 0, none⟩ = some (.int .i64 t7) := (blk_cell BKg20.out 0).trans rfl
  have hz541 : w534.cell? ⟨g20, 1, none⟩ = some (.bool t8) := (blk_cell BKg20.out 1).trans rfl
  have hz542 : w534.cell? ⟨g20, 2, none⟩ = some (.int .i64 t9) := (blk_cell BKg20.out 2).trans rfl
  have hz543 : w534.cell? ⟨g20, 3, none⟩ = some (.string t10) := (blk_cell BKg20.out 3).trans rfl
  have hz544 : w534.cell? ⟨g20, 4, none⟩ = some (.slice A15 t11.length cp15) := (blk_cell BKg20.out 4).trans rfl
  have hf545 := blk_frozen BKg20.out 0
  have hf546 := blk_frozen BKg20.out 1
  have hf547 := blk_frozen BKg20.out 2
  have hf548 := blk_frozen BKg20.out 3
  have hf549 := blk_frozen BKg20.out 4
  have hz550 : w534.cell? ⟨g74, 0, none⟩ = some (.int .i64 t51) := (blk_cell BKg74.out 0).trans rfl
  have hz551 : w534.cell? ⟨g74, 1, none⟩ = some (.bool t52) := (blk_cell BKg74.out 1).trans rfl
  have hz552 : w534.cell? ⟨g74, 2, none⟩ = some (.int .i64 t53) := (blk_cell BKg74.out 2).trans rfl
  have hz553 : w534.cell? ⟨g74, 3, none⟩ = some (.string t54) := (blk_cell BKg74.out 3).trans rfl
  have hz554 : w534.cell? ⟨g74, 4, none⟩ = some (.slice A59 t55.length cp59) := (blk_cell BKg74.out 4).trans rfl
  have hf555 := blk_frozen BKg74.out 0
  have hf556 := blk_frozen BKg74.out 1
  have hf557 := blk_frozen BKg74.out 2
  have hf558 := blk_frozen BKg74.out 3
  have hf559 := blk_frozen BKg74.out 4
  have hz560 : w534.cell? ⟨g158, 0, none⟩ = some (.int .i64 t125) := (blk_cell BKg158.out 0).trans rfl
  have hz561 : w534.cell? ⟨g158, 1, none⟩ = some (.bool t126) := (blk_cell BKg158.out 1).trans rfl
  have hz562 : w534.cell? ⟨g158, 2, none⟩ = some (.int .i64 t127) := (blk_cell BKg158.out 2).trans rfl
  have hz563 : w534.cell? ⟨g158, 3, none⟩ = some (.string t128) := (blk_cell BKg158.out 3).trans rfl
  have hz564 : w534.cell? ⟨g158, 4, none⟩ = some (.slice A133 t129.length cp133) := (blk_cell BKg158.out 4).trans rfl
  have hf565 := blk_frozen BKg158.out 0
  have hf566 := blk_frozen BKg158.out 1
  have hf567 := blk_frozen BKg158.out 2
  have hf568 := blk_frozen BKg158.out 3
  have hf569 := blk_frozen BKg158.out 4
  have hz570 : w534.cell? ⟨g272, 0, none⟩ = some (.int .i64 t229) := (blk_cell BKg272.out 0).trans rfl
  have hz571 : w534.cell? ⟨g272, 1, none⟩ = some (.bool t230) := (blk_cell BKg272.out 1).trans rfl
  have hz572 : w534.cell? ⟨g272, 2, none⟩ = some (.int .i64 t231) := (blk_cell BKg272.out 2).trans rfl
  have hz573 : w534.cell? ⟨g272, 3, none⟩ = some (.string t232) := (blk_cell BKg272.out 3).trans rfl
  have hz574 : w534.cell? ⟨g272, 4, none⟩ = some (.slice A237 t233.length cp237) := (blk_cell BKg272.out 4).trans rfl
  have hf575 := blk_frozen BKg272.out 0
  have hf576 := blk_frozen BKg272.out 1
  have hf577 := blk_frozen BKg272.out 2
  have hf578 := blk_frozen BKg272.out 3
  have hf579 := blk_frozen BKg272.out 4
  have hz580 : w534.cell? ⟨g416, 0, none⟩ = some (.int .i64 t363) := (blk_cell BKg416.out 0).trans rfl
  have hz581 : w534.cell? ⟨g416, 1, none⟩ = some (.bool t364) := (blk_cell BKg416.out 1).trans rfl
  have hz582 : w534.cell? ⟨g416, 2, none⟩ = some (.int .i64 t365) := (blk_cell BKg416.out 2).trans rfl
  have hz583 : w534.cell? ⟨g416, 3, none⟩ = some (.string t366) := (blk_cell BKg416.out 3).trans rfl
  have hz584 : w534.cell? ⟨g416, 4, none⟩ = some (.slice A371 t367.length cp371) := (blk_cell BKg416.out 4).trans rfl
  have hf585 := blk_frozen BKg416.out 0
  have hf586 := blk_frozen BKg416.out 1
  have hf587 := blk_frozen BKg416.out 2
  have hf588 := blk_frozen BKg416.out 3
  have hf589 := blk_frozen BKg416.out 4
  go_wp2_with (((with_reducible refine gate_dst (N := 17) rfl ?_); (try (refine gate_guard (by rfl) ?_; dsimp only)); refine box_event ?hg (N := 17) ?hd (cs := #[.int .i64 0, .bool false, .int .i64 0, .string (⟨#[]⟩ : ByteArray), .slice none 0 0]) (t := 28) ?hr ?_; (case hd => rfl); (case hg => rfl); (case hr => first | (go_simp; done) | (go_simp; rfl)); intro g590 hg w591 hbox hb); replace hg := Aside0.mk hg; replace hbox := Aside0.mk hbox; refine stop_ ?_)
  refine Stop.go ?_
  replace hg := hg.out
  replace hbox := hbox.out
  have GEg590 := Aside0.mk (by rw [hg]; exact (below_size HB.out) : w.heap.size ≤ g590)
  replace HF15 := Aside0.mk (Kd.F_elderB HF15.out g590 (Nat.le_of_eq hg.symm))
  replace HF15 := Aside0.mk (Kd.F_mono HF15.out (fun k_ hk_ => ⟨hk_.1.1, hk_.1.2.1, hk_.1.2.2.1, hk_.1.2.2.2.1, hk_.1.2.2.2.2.1, hk_.1.2.2.2.2.2.1, hk_.1.2.2.2.2.2.2, hk_.2⟩) : Kd.F k28 _ (fun k_ => (w.heap.size ≤ k_) ∧ k_ ≠ g1 ∧ k_ ≠ g20 ∧ k_ ≠ g74 ∧ k_ ≠ g158 ∧ k_ ≠ g272 ∧ k_ ≠ g416 ∧ k_ ≠ g590) _ _ _)
  replace HF59 := Aside0.mk (Kd.F_elderB HF59.out g590 (Nat.le_of_eq hg.symm))
  replace HF59 := Aside0.mk (Kd.F_mono HF59.out (fun k_ hk_ => ⟨hk_.1.1, hk_.1.2.1, hk_.1.2.2.1, hk_.1.2.2.2.1, hk_.1.2.2.2.2.1, hk_.1.2.2.2.2.2.1, hk_.1.2.2.2.2.2.2, hk_.2⟩) : Kd.F k28 _ (fun k_ => (w.heap.size ≤ k_) ∧ k_ ≠ g1 ∧ k_ ≠ g20 ∧ k_ ≠ g74 ∧ k_ ≠ g158 ∧ k_ ≠ g272 ∧ k_ ≠ g416 ∧ k_ ≠ g590) _ _ _)
  replace HF133 := Aside0.mk (Kd.F_elderB HF133.out g590 (Nat.le_of_eq hg.symm))
  replace HF133 := Aside0.mk (Kd.F_mono HF133.out (fun k_ hk_ => ⟨hk_.1.1, hk_.1.2.1, hk_.1.2.2.1, hk_.1.2.2.2.1, hk_.1.2.2.2.2.1, hk_.1.2.2.2.2.2.1, hk_.1.2.2.2.2.2.2, hk_.2⟩) : Kd.F k28 _ (fun k_ => (w.heap.size ≤ k_) ∧ k_ ≠ g1 ∧ k_ ≠ g20 ∧ k_ ≠ g74 ∧ k_ ≠ g158 ∧ k_ ≠ g272 ∧ k_ ≠ g416 ∧ k_ ≠ g590) _ _ _)
  replace HF237 := Aside0.mk (Kd.F_elderB HF237.out g590 (Nat.le_of_eq hg.symm))
  replace HF237 := Aside0.mk (Kd.F_mono HF237.out (fun k_ hk_ => ⟨hk_.1.1, hk_.1.2.1, hk_.1.2.2.1, hk_.1.2.2.2.1, hk_.1.2.2.2.2.1, hk_.1.2.2.2.2.2.1, hk_.1.2.2.2.2.2.2, hk_.2⟩) : Kd.F k28 _ (fun k_ => (w.heap.size ≤ k_) ∧ k_ ≠ g1 ∧ k_ ≠ g20 ∧ k_ ≠ g74 ∧ k_ ≠ g158 ∧ k_ ≠ g272 ∧ k_ ≠ g416 ∧ k_ ≠ g590) _ _ _)
  replace HF371 := Aside0.mk (Kd.F_elderB HF371.out g590 (Nat.le_of_eq hg.symm))
  replace HF371 := Aside0.mk (Kd.F_mono HF371.out (fun k_ hk_ => ⟨hk_.1.1, hk_.1.2.1, hk_.1.2.2.1, hk_.1.2.2.2.1, hk_.1.2.2.2.2.1, hk_.1.2.2.2.2.2.1, hk_.1.2.2.2.2.2.2, hk_.2⟩) : Kd.F k28 _ (fun k_ => (w.heap.size ≤ k_) ∧ k_ ≠ g1 ∧ k_ ≠ g20 ∧ k_ ≠ g74 ∧ k_ ≠ g158 ∧ k_ ≠ g272 ∧ k_ ≠ g416 ∧ k_ ≠ g590) _ _ _)
  replace HF535 := Aside0.mk (Kd.F_elderB HF535.out g590 (Nat.le_of_eq hg.symm))
  replace HF535 := Aside0.mk (Kd.F_mono HF535.out (fun k_ hk_ => ⟨hk_.1.1, hk_.1.2.1, hk_.1.2.2.1, hk_.1.2.2.2.1, hk_.1.2.2.2.2.1, hk_.1.2.2.2.2.2.1, hk_.1.2.2.2.2.2.2, hk_.2⟩) : Kd.F k28 _ (fun k_ => (w.heap.size ≤ k_) ∧ k_ ≠ g1 ∧ k_ ≠ g20 ∧ k_ ≠ g74 ∧ k_ ≠ g158 ∧ k_ ≠ g272 ∧ k_ ≠ g416 ∧ k_ ≠ g590) _ _ _)
  have NEg1_g590 := Aside0.mk (by rw [hg]; exact Nat.ne_of_lt (blk_lt (o := .cells #[.int .i64 a0_0, .int .i64 a0_1] 23 (0, 0)) BKg1.out) : g1 ≠ g590)
  have NEg590_g1 := Aside0.mk (Ne.symm NEg1_g590.out)
  have NEg20_g590 := Aside0.mk (by rw [hg]; exact Nat.ne_of_lt (blk_lt (o := .cells #[.int .i64 t7, .bool t8, .int .i64 t9, .string t10, .slice A15 t11.length cp15] 28 (0, 0)) BKg20.out) : g20 ≠ g590)
  have NEg590_g20 := Aside0.mk (Ne.symm NEg20_g590.out)
  have NEg74_g590 := Aside0.mk (by rw [hg]; exact Nat.ne_of_lt (blk_lt (o := .cells #[.int .i64 t51, .bool t52, .int .i64 t53, .string t54, .slice A59 t55.length cp59] 28 (0, 0)) BKg74.out) : g74 ≠ g590)
  have NEg590_g74 := Aside0.mk (Ne.symm NEg74_g590.out)
  have NEg158_g590 := Aside0.mk (by rw [hg]; exact Nat.ne_of_lt (blk_lt (o := .cells #[.int .i64 t125, .bool t126, .int .i64 t127, .string t128, .slice A133 t129.length cp133] 28 (0, 0)) BKg158.out) : g158 ≠ g590)
  have NEg590_g158 := Aside0.mk (Ne.symm NEg158_g590.out)
  have NEg272_g590 := Aside0.mk (by rw [hg]; exact Nat.ne_of_lt (blk_lt (o := .cells #[.int .i64 t229, .bool t230, .int .i64 t231, .string t232, .slice A237 t233.length cp237] 28 (0, 0)) BKg272.out) : g272 ≠ g590)
  have NEg590_g272 := Aside0.mk (Ne.symm NEg272_g590.out)
  have NEg416_g590 := Aside0.mk (by rw [hg]; exact Nat.ne_of_lt (blk_lt (o := .cells #[.int .i64 t363, .bool t364, .int .i64 t365, .string t366, .slice A371 t367.length cp371] 28 (0, 0)) BKg416.out) : g416 ≠ g590)
  have NEg590_g416 := Aside0.mk (Ne.symm NEg416_g590.out)
  replace HF15 := Aside0.mk (Kd.F_below HF15.out hb)
  replace HF59 := Aside0.mk (Kd.F_below HF59.out hb)
  replace HF133 := Aside0.mk (Kd.F_below HF133.out hb)
  replace HF237 := Aside0.mk (Kd.F_below HF237.out hb)
  replace HF371 := Aside0.mk (Kd.F_below HF371.out hb)
  replace HF535 := Aside0.mk (Kd.F_below HF535.out hb)
  replace BKg1 := Aside0.mk (blk_below (o := .cells #[.int .i64 a0_0, .int .i64 a0_1] 23 (0, 0)) BKg1.out hb)
  replace BKg20 := Aside0.mk (blk_below (o := .cells #[.int .i64 t7, .bool t8, .int .i64 t9, .string t10, .slice A15 t11.length cp15] 28 (0, 0)) BKg20.out hb)
  replace BKg74 := Aside0.mk (blk_below (o := .cells #[.int .i64 t51, .bool t52, .int .i64 t53, .string t54, .slice A59 t55.length cp59] 28 (0, 0)) BKg74.out hb)
  replace BKg158 := Aside0.mk (blk_below (o := .cells #[.int .i64 t125, .bool t126, .int .i64 t127, .string t128, .slice A133 t129.length cp133] 28 (0, 0)) BKg158.out hb)
  replace BKg272 := Aside0.mk (blk_below (o := .cells #[.int .i64 t229, .bool t230, .int .i64 t231, .string t232, .slice A237 t233.length cp237] 28 (0, 0)) BKg272.out hb)
  replace BKg416 := Aside0.mk (blk_below (o := .cells #[.int .i64 t363, .bool t364, .int .i64 t365, .string t366, .slice A371 t367.length cp371] 28 (0, 0)) BKg416.out hb)
  replace HB := Aside0.mk (below_step HB.out hb)
  have BKg590 := Aside0.mk hbox
  clear hg hbox hb
  clear hz536 hz537 hf538 hf539 hz540 hz541 hz542 hz543 hz544 hf545 hf546 hf547 hf548 hf549 hz550 hz551 hz552 hz553 hz554 hf555 hf556 hf557 hf558 hf559 hz560 hz561 hz562 hz563 hz564 hf565 hf566 hf567 hf568 hf569 hz570 hz571 hz572 hz573 hz574 hf575 hf576 hf577 hf578 hf579 hz580 hz581 hz582 hz583 hz584 hf585 hf586 hf587 hf588 hf589
  have hz592 : w591.cell? ⟨g1, 0, none⟩ = some (.int .i64 a0_0) := (blk_cell BKg1.out 0).trans rfl
  have hz593 : w591.cell? ⟨g1, 1, none⟩ = some (.int .i64 a0_1) := (blk_cell BKg1.out 1).trans rfl
  have hf594 := blk_frozen BKg1.out 0
  have hf595 := blk_frozen BKg1.out 1
  have hz596 : w591.cell? ⟨g20, 0, none⟩ = some (.int .i64 t7) := (blk_cell BKg20.out 0).trans rfl
  have hz597 : w591.cell? ⟨g20, 1, none⟩ = some (.bool t8) := (blk_cell BKg20.out 1).trans rfl
  have hz598 : w591.cell? ⟨g20, 2, none⟩ = some (.int .i64 t9) := (blk_cell BKg20.out 2).trans rfl
  have hz599 : w591.cell? ⟨g20, 3, none⟩ = some (.string t10) := (blk_cell BKg20.out 3).trans rfl
  have hz600 : w591.cell? ⟨g20, 4, none⟩ = some (.slice A15 t11.length cp15) := (blk_cell BKg20.out 4).trans rfl
  have hf601 := blk_frozen BKg20.out 0
  have hf602 := blk_frozen BKg20.out 1
  have hf603 := blk_frozen BKg20.out 2
  have hf604 := blk_frozen BKg20.out 3
  have hf605 := blk_frozen BKg20.out 4
  have hz606 : w591.cell? ⟨g74, 0, none⟩ = some (.int .i64 t51) := (blk_cell BKg74.out 0).trans rfl
  have hz607 : w591.cell? ⟨g74, 1, none⟩ = some (.bool t52) := (blk_cell BKg74.out 1).trans rfl
  have hz608 : w591.cell? ⟨g74, 2, none⟩ = some (.int .i64 t53) := (blk_cell BKg74.out 2).trans rfl
  have hz609 : w591.cell? ⟨g74, 3, none⟩ = some (.string t54) := (blk_cell BKg74.out 3).trans rfl
  have hz610 : w591.cell? ⟨g74, 4, none⟩ = some (.slice A59 t55.length cp59) := (blk_cell BKg74.out 4).trans rfl
  have hf611 := blk_frozen BKg74.out 0
  have hf612 := blk_frozen BKg74.out 1
  have hf613 := blk_frozen BKg74.out 2
  have hf614 := blk_frozen BKg74.out 3
  have hf615 := blk_frozen BKg74.out 4
  have hz616 : w591.cell? ⟨g158, 0, none⟩ = some (.int .i64 t125) := (blk_cell BKg158.out 0).trans rfl
  have hz617 : w591.cell? ⟨g158, 1, none⟩ = some (.bool t126) := (blk_cell BKg158.out 1).trans rfl
  have hz618 : w591.cell? ⟨g158, 2, none⟩ = some (.int .i64 t127) := (blk_cell BKg158.out 2).trans rfl
  have hz619 : w591.cell? ⟨g158, 3, none⟩ = some (.string t128) := (blk_cell BKg158.out 3).trans rfl
  have hz620 : w591.cell? ⟨g158, 4, none⟩ = some (.slice A133 t129.length cp133) := (blk_cell BKg158.out 4).trans rfl
  have hf621 := blk_frozen BKg158.out 0
  have hf622 := blk_frozen BKg158.out 1
  have hf623 := blk_frozen BKg158.out 2
  have hf624 := blk_frozen BKg158.out 3
  have hf625 := blk_frozen BKg158.out 4
  have hz626 : w591.cell? ⟨g272, 0, none⟩ = some (.int .i64 t229) := (blk_cell BKg272.out 0).trans rfl
  have hz627 : w591.cell? ⟨g272, 1, none⟩ = some (.bool t230) := (blk_cell BKg272.out 1).trans rfl
  have hz628 : w591.cell? ⟨g272, 2, none⟩ = some (.int .i64 t231) := (blk_cell BKg272.out 2).trans rfl
  have hz629 : w591.cell? ⟨g272, 3, none⟩ = some (.string t232) := (blk_cell BKg272.out 3).trans rfl
  have hz630 : w591.cell? ⟨g272, 4, none⟩ = some (.slice A237 t233.length cp237) := (blk_cell BKg272.out 4).trans rfl
  have hf631 := blk_frozen BKg272.out 0
  have hf632 := blk_frozen BKg272.out 1
  have hf633 := blk_frozen BKg272.out 2
  have hf634 := blk_frozen BKg272.out 3
  have hf635 := blk_frozen BKg272.out 4
  have hz636 : w591.cell? ⟨g416, 0, none⟩ = some (.int .i64 t363) := (blk_cell BKg416.out 0).trans rfl
  have hz637 : w591.cell? ⟨g416, 1, none⟩ = some (.bool t364) := (blk_cell BKg416.out 1).trans rfl
  have hz638 : w591.cell? ⟨g416, 2, none⟩ = some (.int .i64 t365) := (blk_cell BKg416.out 2).trans rfl
  have hz639 : w591.cell? ⟨g416, 3, none⟩ = some (.string t366) := (blk_cell BKg416.out 3).trans rfl
  have hz640 : w591.cell? ⟨g416, 4, none⟩ = some (.slice A371 t367.length cp371) := (blk_cell BKg416.out 4).trans rfl
  have hf641 := blk_frozen BKg416.out 0
  have hf642 := blk_frozen BKg416.out 1
  have hf643 := blk_frozen BKg416.out 2
  have hf644 := blk_frozen BKg416.out 3
  have hf645 := blk_frozen BKg416.out 4
  have hz646 : w591.cell? ⟨g590, 0, none⟩ = some (.int .i64 0) := (blk_cell BKg590.out 0).trans rfl
  have hz647 : w591.cell? ⟨g590, 1, none⟩ = some (.bool false) := (blk_cell BKg590.out 1).trans rfl
  have hz648 : w591.cell? ⟨g590, 2, none⟩ = some (.int .i64 0) := (blk_cell BKg590.out 2).trans rfl
  have hz649 : w591.cell? ⟨g590, 3, none⟩ = some (.string (⟨#[]⟩ : ByteArray)) := (blk_cell BKg590.out 3).trans rfl
  have hz650 : w591.cell? ⟨g590, 4, none⟩ = some (.slice none 0 0) := (blk_cell BKg590.out 4).trans rfl
  have hf651 := blk_frozen BKg590.out 0
  have hf652 := blk_frozen BKg590.out 1
  have hf653 := blk_frozen BKg590.out 2
  have hf654 := blk_frozen BKg590.out 3
  have hf655 := blk_frozen BKg590.out 4
  go_wp2_with (((with_reducible refine gate_store (t := 28) (p := 17) rfl ?_); (try (refine gate_guard (by rfl) ?_; dsimp only)); refine MW.ev_store #[.int .i64 t527, .bool t528, .int .i64 t529, .string t530, .slice A535 t531.length cp535] rfl rfl rfl rfl (cs := #[.int .i64 0, .bool false, .int .i64 0, .string (⟨#[]⟩ : ByteArray), .slice none 0 0]) (ty := 28) BKg590.out [.int .i64 t527, .bool t528, .int .i64 t529, .string t530, .slice A535 t531.length cp535] rfl (by kernel_rfl) (by simp) (by simp [Value.oneCell']) rfl ?_; intro w656 hbk hg); replace hbk := Aside0.mk hbk; refine stop_ ?_)
  refine Stop.go ?_
  replace hbk := hbk.out
  replace HF15 := Aside0.mk (Kd.F_grown (ok := (fun k_ => (w.heap.size ≤ k_) ∧ k_ ≠ g1 ∧ k_ ≠ g20 ∧ k_ ≠ g74 ∧ k_ ≠ g158 ∧ k_ ≠ g272 ∧ k_ ≠ g416 ∧ k_ ≠ g590)) HF15.out hg (fun k_ hk_ he_ => hk_.2.2.2.2.2.2.2 (Option.some.inj he_)))
  replace HF59 := Aside0.mk (Kd.F_grown (ok := (fun k_ => (w.heap.size ≤ k_) ∧ k_ ≠ g1 ∧ k_ ≠ g20 ∧ k_ ≠ g74 ∧ k_ ≠ g158 ∧ k_ ≠ g272 ∧ k_ ≠ g416 ∧ k_ ≠ g590)) HF59.out hg (fun k_ hk_ he_ => hk_.2.2.2.2.2.2.2 (Option.some.inj he_)))
  replace HF133 := Aside0.mk (Kd.F_grown (ok := (fun k_ => (w.heap.size ≤ k_) ∧ k_ ≠ g1 ∧ k_ ≠ g20 ∧ k_ ≠ g74 ∧ k_ ≠ g158 ∧ k_ ≠ g272 ∧ k_ ≠ g416 ∧ k_ ≠ g590)) HF133.out hg (fun k_ hk_ he_ => hk_.2.2.2.2.2.2.2 (Option.some.inj he_)))
  replace HF237 := Aside0.mk (Kd.F_grown (ok := (fun k_ => (w.heap.size ≤ k_) ∧ k_ ≠ g1 ∧ k_ ≠ g20 ∧ k_ ≠ g74 ∧ k_ ≠ g158 ∧ k_ ≠ g272 ∧ k_ ≠ g416 ∧ k_ ≠ g590)) HF237.out hg (fun k_ hk_ he_ => hk_.2.2.2.2.2.2.2 (Option.some.inj he_)))
  replace HF371 := Aside0.mk (Kd.F_grown (ok := (fun k_ => (w.heap.size ≤ k_) ∧ k_ ≠ g1 ∧ k_ ≠ g20 ∧ k_ ≠ g74 ∧ k_ ≠ g158 ∧ k_ ≠ g272 ∧ k_ ≠ g416 ∧ k_ ≠ g590)) HF371.out hg (fun k_ hk_ he_ => hk_.2.2.2.2.2.2.2 (Option.some.inj he_)))
  replace HF535 := Aside0.mk (Kd.F_grown (ok := (fun k_ => (w.heap.size ≤ k_) ∧ k_ ≠ g1 ∧ k_ ≠ g20 ∧ k_ ≠ g74 ∧ k_ ≠ g158 ∧ k_ ≠ g272 ∧ k_ ≠ g416 ∧ k_ ≠ g590)) HF535.out hg (fun k_ hk_ he_ => hk_.2.2.2.2.2.2.2 (Option.some.inj he_)))
  replace BKg1 := Aside0.mk (blk_grown (o := .cells #[.int .i64 a0_0, .int .i64 a0_1] 23 (0, 0)) BKg1.out hg (fun he_ => NEg1_g590.out (Option.some.inj he_)))
  replace BKg20 := Aside0.mk (blk_grown (o := .cells #[.int .i64 t7, .bool t8, .int .i64 t9, .string t10, .slice A15 t11.length cp15] 28 (0, 0)) BKg20.out hg (fun he_ => NEg20_g590.out (Option.some.inj he_)))
  replace BKg74 := Aside0.mk (blk_grown (o := .cells #[.int .i64 t51, .bool t52, .int .i64 t53, .string t54, .slice A59 t55.length cp59] 28 (0, 0)) BKg74.out hg (fun he_ => NEg74_g590.out (Option.some.inj he_)))
  replace BKg158 := Aside0.mk (blk_grown (o := .cells #[.int .i64 t125, .bool t126, .int .i64 t127, .string t128, .slice A133 t129.length cp133] 28 (0, 0)) BKg158.out hg (fun he_ => NEg158_g590.out (Option.some.inj he_)))
  replace BKg272 := Aside0.mk (blk_grown (o := .cells #[.int .i64 t229, .bool t230, .int .i64 t231, .string t232, .slice A237 t233.length cp237] 28 (0, 0)) BKg272.out hg (fun he_ => NEg272_g590.out (Option.some.inj he_)))
  replace BKg416 := Aside0.mk (blk_grown (o := .cells #[.int .i64 t363, .bool t364, .int .i64 t365, .string t366, .slice A371 t367.length cp371] 28 (0, 0)) BKg416.out hg (fun he_ => NEg416_g590.out (Option.some.inj he_)))
  replace HB := Aside0.mk (Below.grown HB.out hg (below_size HB.out) (fun k_ hk_ => by injection hk_ with hk_; rw [← hk_]; exact GEg590.out))
  replace BKg590 := Aside0.mk hbk
  clear hg hbk
  clear hz592 hz593 hf594 hf595 hz596 hz597 hz598 hz599 hz600 hf601 hf602 hf603 hf604 hf605 hz606 hz607 hz608 hz609 hz610 hf611 hf612 hf613 hf614 hf615 hz616 hz617 hz618 hz619 hz620 hf621 hf622 hf623 hf624 hf625 hz626 hz627 hz628 hz629 hz630 hf631 hf632 hf633 hf634 hf635 hz636 hz637 hz638 hz639 hz640 hf641 hf642 hf643 hf644 hf645 hz646 hz647 hz648 hz649 hz650 hf651 hf652 hf653 hf654 hf655
  have hz657 : w656.cell? ⟨g1, 0, none⟩ = some (.int .i64 a0_0) := (blk_cell BKg1.out 0).trans rfl
  have hz658 : w656.cell? ⟨g1, 1, none⟩ = some (.int .i64 a0_1) := (blk_cell BKg1.out 1).trans rfl
  have hf659 := blk_frozen BKg1.out 0
  have hf660 := blk_frozen BKg1.out 1
  have hz661 : w656.cell? ⟨g20, 0, none⟩ = some (.int .i64 t7) := (blk_cell BKg20.out 0).trans rfl
  have hz662 : w656.cell? ⟨g20, 1, none⟩ = some (.bool t8) := (blk_cell BKg20.out 1).trans rfl
  have hz663 : w656.cell? ⟨g20, 2, none⟩ = some (.int .i64 t9) := (blk_cell BKg20.out 2).trans rfl
  have hz664 : w656.cell? ⟨g20, 3, none⟩ = some (.string t10) := (blk_cell BKg20.out 3).trans rfl
  have hz665 : w656.cell? ⟨g20, 4, none⟩ = some (.slice A15 t11.length cp15) := (blk_cell BKg20.out 4).trans rfl
  have hf666 := blk_frozen BKg20.out 0
  have hf667 := blk_frozen BKg20.out 1
  have hf668 := blk_frozen BKg20.out 2
  have hf669 := blk_frozen BKg20.out 3
  have hf670 := blk_frozen BKg20.out 4
  have hz671 : w656.cell? ⟨g74, 0, none⟩ = some (.int .i64 t51) := (blk_cell BKg74.out 0).trans rfl
  have hz672 : w656.cell? ⟨g74, 1, none⟩ = some (.bool t52) := (blk_cell BKg74.out 1).trans rfl
  have hz673 : w656.cell? ⟨g74, 2, none⟩ = some (.int .i64 t53) := (blk_cell BKg74.out 2).trans rfl
  have hz674 : w656.cell? ⟨g74, 3, none⟩ = some (.string t54) := (blk_cell BKg74.out 3).trans rfl
  have hz675 : w656.cell? ⟨g74, 4, none⟩ = some (.slice A59 t55.length cp59) := (blk_cell BKg74.out 4).trans rfl
  have hf676 := blk_frozen BKg74.out 0
  have hf677 := blk_frozen BKg74.out 1
  have hf678 := blk_frozen BKg74.out 2
  have hf679 := blk_frozen BKg74.out 3
  have hf680 := blk_frozen BKg74.out 4
  have hz681 : w656.cell? ⟨g158, 0, none⟩ = some (.int .i64 t125) := (blk_cell BKg158.out 0).trans rfl
  have hz682 : w656.cell? ⟨g158, 1, none⟩ = some (.bool t126) := (blk_cell BKg158.out 1).trans rfl
  have hz683 : w656.cell? ⟨g158, 2, none⟩ = some (.int .i64 t127) := (blk_cell BKg158.out 2).trans rfl
  have hz684 : w656.cell? ⟨g158, 3, none⟩ = some (.string t128) := (blk_cell BKg158.out 3).trans rfl
  have hz685 : w656.cell? ⟨g158, 4, none⟩ = some (.slice A133 t129.length cp133) := (blk_cell BKg158.out 4).trans rfl
  have hf686 := blk_frozen BKg158.out 0
  have hf687 := blk_frozen BKg158.out 1
  have hf688 := blk_frozen BKg158.out 2
  have hf689 := blk_frozen BKg158.out 3
  have hf690 := blk_frozen BKg158.out 4
  have hz691 : w656.cell? ⟨g272, 0, none⟩ = some (.int .i64 t229) := (blk_cell BKg272.out 0).trans rfl
  have hz692 : w656.cell? ⟨g272, 1, none⟩ = some (.bool t230) := (blk_cell BKg272.out 1).trans rfl
  have hz693 : w656.cell? ⟨g272, 2, none⟩ = some (.int .i64 t231) := (blk_cell BKg272.out 2).trans rfl
  have hz694 : w656.cell? ⟨g272, 3, none⟩ = some (.string t232) := (blk_cell BKg272.out 3).trans rfl
  have hz695 : w656.cell? ⟨g272, 4, none⟩ = some (.slice A237 t233.length cp237) := (blk_cell BKg272.out 4).trans rfl
  have hf696 := blk_frozen BKg272.out 0
  have hf697 := blk_frozen BKg272.out 1
  have hf698 := blk_frozen BKg272.out 2
  have hf699 := blk_frozen BKg272.out 3
  have hf700 := blk_frozen BKg272.out 4
  have hz701 : w656.cell? ⟨g416, 0, none⟩ = some (.int .i64 t363) := (blk_cell BKg416.out 0).trans rfl
  have hz702 : w656.cell? ⟨g416, 1, none⟩ = some (.bool t364) := (blk_cell BKg416.out 1).trans rfl
  have hz703 : w656.cell? ⟨g416, 2, none⟩ = some (.int .i64 t365) := (blk_cell BKg416.out 2).trans rfl
  have hz704 : w656.cell? ⟨g416, 3, none⟩ = some (.string t366) := (blk_cell BKg416.out 3).trans rfl
  have hz705 : w656.cell? ⟨g416, 4, none⟩ = some (.slice A371 t367.length cp371) := (blk_cell BKg416.out 4).trans rfl
  have hf706 := blk_frozen BKg416.out 0
  have hf707 := blk_frozen BKg416.out 1
  have hf708 := blk_frozen BKg416.out 2
  have hf709 := blk_frozen BKg416.out 3
  have hf710 := blk_frozen BKg416.out 4
  have hz711 : w656.cell? ⟨g590, 0, none⟩ = some (.int .i64 t527) := (blk_cell BKg590.out 0).trans rfl
  have hz712 : w656.cell? ⟨g590, 1, none⟩ = some (.bool t528) := (blk_cell BKg590.out 1).trans rfl
  have hz713 : w656.cell? ⟨g590, 2, none⟩ = some (.int .i64 t529) := (blk_cell BKg590.out 2).trans rfl
  have hz714 : w656.cell? ⟨g590, 3, none⟩ = some (.string t530) := (blk_cell BKg590.out 3).trans rfl
  have hz715 : w656.cell? ⟨g590, 4, none⟩ = some (.slice A535 t531.length cp535) := (blk_cell BKg590.out 4).trans rfl
  have hf716 := blk_frozen BKg590.out 0
  have hf717 := blk_frozen BKg590.out 1
  have hf718 := blk_frozen BKg590.out 2
  have hf719 := blk_frozen BKg590.out 3
  have hf720 := blk_frozen BKg590.out 4
  have H := HH.out
  replace H := Option.bind_eq_some_iff.mp H
  obtain ⟨t721, at_, H⟩ := H
  have At722 := Aside0.mk at_
  clear at_
  replace HH := Aside0.mk (show (if t721 = true then (if t12 = t56 then ((toponymref15_Same.f k t125 t126 t127 t128 t129 t229 t230 t231 t232 t233).bind fun t792 => (if t792 = true then (if t130 = t234 then ((toponymref15_Same.f k t363 t364 t365 t366 t367 t527 t528 t529 t530 t531).bind fun t863 => (if t863 = true then (if t368 = t532 then ((toponymlaw16_awake.f k ).bind fun t934 => (some t934)) else (some false)) else (some false))) else (some false)) else (some false))) else (some false)) else (some false)) = some r from H)
  clear H
  go_wp2_with (((with_reducible refine gate_callee (f := 12) rfl ?_); (try (refine gate_guard (by rfl) ?_; dsimp only)); refine goesL_ (some 77) rfl rfl Try.func12 (by kernel_rfl) rfl #[.agg #[.int .i64 t7, .bool t8, .int .i64 t9, .string t10, .slice A15 t11.length cp15], .agg #[.int .i64 t51, .bool t52, .int .i64 t53, .string t54, .slice A59 t55.length cp59]] rfl (by (try simp only [List.map_toArray, List.map_cons, List.map_nil]); first | done | rfl | (simp only [List.length_drop, List.length_take]; rfl)) ?_; (with_reducible refine (toponymref15_Same.calls k (fun k_ => (w.heap.size ≤ k_) ∧ k_ ≠ g1 ∧ k_ ≠ g20 ∧ k_ ≠ g74 ∧ k_ ≠ g158 ∧ k_ ≠ g272 ∧ k_ ≠ g416 ∧ k_ ≠ g590) t7 t8 t9 t10 _ _ t11 t51 t52 t53 t54 _ _ t55 t721 _ (Kd.F_mono (ok := (fun k_ => (w.heap.size ≤ k_) ∧ k_ ≠ g1 ∧ k_ ≠ g20 ∧ k_ ≠ g74 ∧ k_ ≠ g158 ∧ k_ ≠ g272 ∧ k_ ≠ g416 ∧ k_ ≠ g590)) HF15.out (fun k_ hk_ => ⟨hk_.1, hk_.2.1, hk_.2.2.1, hk_.2.2.2.1, hk_.2.2.2.2.1, hk_.2.2.2.2.2.1, hk_.2.2.2.2.2.2.1, hk_.2.2.2.2.2.2.2⟩)) HL15.out (Kd.F_mono (ok := (fun k_ => (w.heap.size ≤ k_) ∧ k_ ≠ g1 ∧ k_ ≠ g20 ∧ k_ ≠ g74 ∧ k_ ≠ g158 ∧ k_ ≠ g272 ∧ k_ ≠ g416 ∧ k_ ≠ g590)) HF59.out (fun k_ hk_ => ⟨hk_.1, hk_.2.1, hk_.2.2.1, hk_.2.2.2.1, hk_.2.2.2.2.1, hk_.2.2.2.2.2.1, hk_.2.2.2.2.2.2.1, hk_.2.2.2.2.2.2.2⟩)) HL59.out At722.out).mono ?_); rintro e w723 ⟨rfl, hb⟩; refine ⟨_, rfl, ?_⟩); refine stop_ ?_)
  refine Stop.go ?_
  replace HF15 := Aside0.mk (Kd.F_below HF15.out hb)
  replace HF59 := Aside0.mk (Kd.F_below HF59.out hb)
  replace HF133 := Aside0.mk (Kd.F_below HF133.out hb)
  replace HF237 := Aside0.mk (Kd.F_below HF237.out hb)
  replace HF371 := Aside0.mk (Kd.F_below HF371.out hb)
  replace HF535 := Aside0.mk (Kd.F_below HF535.out hb)
  replace BKg1 := Aside0.mk (blk_below (o := .cells #[.int .i64 a0_0, .int .i64 a0_1] 23 (0, 0)) BKg1.out hb)
  replace BKg20 := Aside0.mk (blk_below (o := .cells #[.int .i64 t7, .bool t8, .int .i64 t9, .string t10, .slice A15 t11.length cp15] 28 (0, 0)) BKg20.out hb)
  replace BKg74 := Aside0.mk (blk_below (o := .cells #[.int .i64 t51, .bool t52, .int .i64 t53, .string t54, .slice A59 t55.length cp59] 28 (0, 0)) BKg74.out hb)
  replace BKg158 := Aside0.mk (blk_below (o := .cells #[.int .i64 t125, .bool t126, .int .i64 t127, .string t128, .slice A133 t129.length cp133] 28 (0, 0)) BKg158.out hb)
  replace BKg272 := Aside0.mk (blk_below (o := .cells #[.int .i64 t229, .bool t230, .int .i64 t231, .string t232, .slice A237 t233.length cp237] 28 (0, 0)) BKg272.out hb)
  replace BKg416 := Aside0.mk (blk_below (o := .cells #[.int .i64 t363, .bool t364, .int .i64 t365, .string t366, .slice A371 t367.length cp371] 28 (0, 0)) BKg416.out hb)
  replace BKg590 := Aside0.mk (blk_below (o := .cells #[.int .i64 t527, .bool t528, .int .i64 t529, .string t530, .slice A535 t531.length cp535] 28 (0, 0)) BKg590.out hb)
  replace HB := Aside0.mk (below_step HB.out hb)
  clear hb
  clear hz657 hz658 hf659 hf660 hz661 hz662 hz663 hz664 hz665 hf666 hf667 hf668 hf669 hf670 hz671 hz672 hz673 hz674 hz675 hf676 hf677 hf678 hf679 hf680 hz681 hz682 hz683 hz684 hz685 hf686 hf687 hf688 hf689 hf690 hz691 hz692 hz693 hz694 hz695 hf696 hf697 hf698 hf699 hf700 hz701 hz702 hz703 hz704 hz705 hf706 hf707 hf708 hf709 hf710 hz711 hz712 hz713 hz714 hz715 hf716 hf717 hf718 hf719 hf720
  have hz724 : w723.cell? ⟨g1, 0, none⟩ = some (.int .i64 a0_0) := (blk_cell BKg1.out 0).trans rfl
  have hz725 : w723.cell? ⟨g1, 1, none⟩ = some (.int .i64 a0_1) := (blk_cell BKg1.out 1).trans rfl
  have hf726 := blk_frozen BKg1.out 0
  have hf727 := blk_frozen BKg1.out 1
  have hz728 : w723.cell? ⟨g20, 0, none⟩ = some (.int .i64 t7) := (blk_cell BKg20.out 0).trans rfl
  have hz729 : w723.cell? ⟨g20, 1, none⟩ = some (.bool t8) := (blk_cell BKg20.out 1).trans rfl
  have hz730 : w723.cell? ⟨g20, 2, none⟩ = some (.int .i64 t9) := (blk_cell BKg20.out 2).trans rfl
  have hz731 : w723.cell? ⟨g20, 3, none⟩ = some (.string t10) := (blk_cell BKg20.out 3).trans rfl
  have hz732 : w723.cell? ⟨g20, 4, none⟩ = some (.slice A15 t11.length cp15) := (blk_cell BKg20.out 4).trans rfl
  have hf733 := blk_frozen BKg20.out 0
  have hf734 := blk_frozen BKg20.out 1
  have hf735 := blk_frozen BKg20.out 2
  have hf736 := blk_frozen BKg20.out 3
  have hf737 := blk_frozen BKg20.out 4
  have hz738 : w723.cell? ⟨g74, 0, none⟩ = some (.int .i64 t51) := (blk_cell BKg74.out 0).trans rfl
  have hz739 : w723.cell? ⟨g74, 1, none⟩ = some (.bool t52) := (blk_cell BKg74.out 1).trans rfl
  have hz740 : w723.cell? ⟨g74, 2, none⟩ = some (.int .i64 t53) := (blk_cell BKg74.out 2).trans rfl
  have hz741 : w723.cell? ⟨g74, 3, none⟩ = some (.string t54) := (blk_cell BKg74.out 3).trans rfl
  have hz742 : w723.cell? ⟨g74, 4, none⟩ = some (.slice A59 t55.length cp59) := (blk_cell BKg74.out 4).trans rfl
  have hf743 := blk_frozen BKg74.out 0
  have hf744 := blk_frozen BKg74.out 1
  have hf745 := blk_frozen BKg74.out 2
  have hf746 := blk_frozen BKg74.out 3
  have hf747 := blk_frozen BKg74.out 4
  have hz748 : w723.cell? ⟨g158, 0, none⟩ = some (.int .i64 t125) := (blk_cell BKg158.out 0).trans rfl
  have hz749 : w723.cell? ⟨g158, 1, none⟩ = some (.bool t126) := (blk_cell BKg158.out 1).trans rfl
  have hz750 : w723.cell? ⟨g158, 2, none⟩ = some (.int .i64 t127) := (blk_cell BKg158.out 2).trans rfl
  have hz751 : w723.cell? ⟨g158, 3, none⟩ = some (.string t128) := (blk_cell BKg158.out 3).trans rfl
  have hz752 : w723.cell? ⟨g158, 4, none⟩ = some (.slice A133 t129.length cp133) := (blk_cell BKg158.out 4).trans rfl
  have hf753 := blk_frozen BKg158.out 0
  have hf754 := blk_frozen BKg158.out 1
  have hf755 := blk_frozen BKg158.out 2
  have hf756 := blk_frozen BKg158.out 3
  have hf757 := blk_frozen BKg158.out 4
  have hz758 : w723.cell? ⟨g272, 0, none⟩ = some (.int .i64 t229) := (blk_cell BKg272.out 0).trans rfl
  have hz759 : w723.cell? ⟨g272, 1, none⟩ = some (.bool t230) := (blk_cell BKg272.out 1).trans rfl
  have hz760 : w723.cell? ⟨g272, 2, none⟩ = some (.int .i64 t231) := (blk_cell BKg272.out 2).trans rfl
  have hz761 : w723.cell? ⟨g272, 3, none⟩ = some (.string t232) := (blk_cell BKg272.out 3).trans rfl
  have hz762 : w723.cell? ⟨g272, 4, none⟩ = some (.slice A237 t233.length cp237) := (blk_cell BKg272.out 4).trans rfl
  have hf763 := blk_frozen BKg272.out 0
  have hf764 := blk_frozen BKg272.out 1
  have hf765 := blk_frozen BKg272.out 2
  have hf766 := blk_frozen BKg272.out 3
  have hf767 := blk_frozen BKg272.out 4
  have hz768 : w723.cell? ⟨g416, 0, none⟩ = some (.int .i64 t363) := (blk_cell BKg416.out 0).trans rfl
  have hz769 : w723.cell? ⟨g416, 1, none⟩ = some (.bool t364) := (blk_cell BKg416.out 1).trans rfl
  have hz770 : w723.cell? ⟨g416, 2, none⟩ = some (.int .i64 t365) := (blk_cell BKg416.out 2).trans rfl
  have hz771 : w723.cell? ⟨g416, 3, none⟩ = some (.string t366) := (blk_cell BKg416.out 3).trans rfl
  have hz772 : w723.cell? ⟨g416, 4, none⟩ = some (.slice A371 t367.length cp371) := (blk_cell BKg416.out 4).trans rfl
  have hf773 := blk_frozen BKg416.out 0
  have hf774 := blk_frozen BKg416.out 1
  have hf775 := blk_frozen BKg416.out 2
  have hf776 := blk_frozen BKg416.out 3
  have hf777 := blk_frozen BKg416.out 4
  have hz778 : w723.cell? ⟨g590, 0, none⟩ = some (.int .i64 t527) := (blk_cell BKg590.out 0).trans rfl
  have hz779 : w723.cell? ⟨g590, 1, none⟩ = some (.bool t528) := (blk_cell BKg590.out 1).trans rfl
  have hz780 : w723.cell? ⟨g590, 2, none⟩ = some (.int .i64 t529) := (blk_cell BKg590.out 2).trans rfl
  have hz781 : w723.cell? ⟨g590, 3, none⟩ = some (.string t530) := (blk_cell BKg590.out 3).trans rfl
  have hz782 : w723.cell? ⟨g590, 4, none⟩ = some (.slice A535 t531.length cp535) := (blk_cell BKg590.out 4).trans rfl
  have hf783 := blk_frozen BKg590.out 0
  have hf784 := blk_frozen BKg590.out 1
  have hf785 := blk_frozen BKg590.out 2
  have hf786 := blk_frozen BKg590.out 3
  have hf787 := blk_frozen BKg590.out 4
  by_cases c788 : t721 = true
  · have H := HH.out
    rw [if_pos c788] at H
    replace HH := Aside0.mk H
    clear H
    subst c788
    by_cases c789 : t12 = t56
    · have H := HH.out
      rw [if_pos c789] at H
      replace HH := Aside0.mk H
      clear H
      have hk790 : (t12 == t56) = true := beq_iff_eq.mpr c789
      have hk791 : (t12 != t56) = false := bne_eq_false_iff_eq.mpr c789
      clear c789
      have H := HH.out
      replace H := Option.bind_eq_some_iff.mp H
      obtain ⟨t792, at_, H⟩ := H
      have At793 := Aside0.mk at_
      clear at_
      replace HH := Aside0.mk (show (if t792 = true then (if t130 = t234 then ((toponymref15_Same.f k t363 t364 t365 t366 t367 t527 t528 t529 t530 t531).bind fun t863 => (if t863 = true then (if t368 = t532 then ((toponymlaw16_awake.f k ).bind fun t934 => (some t934)) else (some false)) else (some false))) else (some false)) else (some false)) = some r from H)
      clear H
      go_wp2_with (((with_reducible refine gate_callee (f := 12) rfl ?_); (try (refine gate_guard (by rfl) ?_; dsimp only)); refine goesL_ (some 86) rfl rfl Try.func12 (by kernel_rfl) rfl #[.agg #[.int .i64 t125, .bool t126, .int .i64 t127, .string t128, .slice A133 t129.length cp133], .agg #[.int .i64 t229, .bool t230, .int .i64 t231, .string t232, .slice A237 t233.length cp237]] rfl (by (try simp only [List.map_toArray, List.map_cons, List.map_nil]); first | done | rfl | (simp only [List.length_drop, List.length_take]; rfl)) ?_; (with_reducible refine (toponymref15_Same.calls k (fun k_ => (w.heap.size ≤ k_) ∧ k_ ≠ g1 ∧ k_ ≠ g20 ∧ k_ ≠ g74 ∧ k_ ≠ g158 ∧ k_ ≠ g272 ∧ k_ ≠ g416 ∧ k_ ≠ g590) t125 t126 t127 t128 _ _ t129 t229 t230 t231 t232 _ _ t233 t792 _ (Kd.F_mono (ok := (fun k_ => (w.heap.size ≤ k_) ∧ k_ ≠ g1 ∧ k_ ≠ g20 ∧ k_ ≠ g74 ∧ k_ ≠ g158 ∧ k_ ≠ g272 ∧ k_ ≠ g416 ∧ k_ ≠ g590)) HF133.out (fun k_ hk_ => ⟨hk_.1, hk_.2.1, hk_.2.2.1, hk_.2.2.2.1, hk_.2.2.2.2.1, hk_.2.2.2.2.2.1, hk_.2.2.2.2.2.2.1, hk_.2.2.2.2.2.2.2⟩)) HL133.out (Kd.F_mono (ok := (fun k_ => (w.heap.size ≤ k_) ∧ k_ ≠ g1 ∧ k_ ≠ g20 ∧ k_ ≠ g74 ∧ k_ ≠ g158 ∧ k_ ≠ g272 ∧ k_ ≠ g416 ∧ k_ ≠ g590)) HF237.out (fun k_ hk_ => ⟨hk_.1, hk_.2.1, hk_.2.2.1, hk_.2.2.2.1, hk_.2.2.2.2.1, hk_.2.2.2.2.2.1, hk_.2.2.2.2.2.2.1, hk_.2.2.2.2.2.2.2⟩)) HL237.out At793.out).mono ?_); rintro e w794 ⟨rfl, hb⟩; refine ⟨_, rfl, ?_⟩); refine stop_ ?_)
      refine Stop.go ?_
      replace HF15 := Aside0.mk (Kd.F_below HF15.out hb)
      replace HF59 := Aside0.mk (Kd.F_below HF59.out hb)
      replace HF133 := Aside0.mk (Kd.F_below HF133.out hb)
      replace HF237 := Aside0.mk (Kd.F_below HF237.out hb)
      replace HF371 := Aside0.mk (Kd.F_below HF371.out hb)
      replace HF535 := Aside0.mk (Kd.F_below HF535.out hb)
      replace BKg1 := Aside0.mk (blk_below (o := .cells #[.int .i64 a0_0, .int .i64 a0_1] 23 (0, 0)) BKg1.out hb)
      replace BKg20 := Aside0.mk (blk_below (o := .cells #[.int .i64 t7, .bool t8, .int .i64 t9, .string t10, .slice A15 t11.length cp15] 28 (0, 0)) BKg20.out hb)
      replace BKg74 := Aside0.mk (blk_below (o := .cells #[.int .i64 t51, .bool t52, .int .i64 t53, .string t54, .slice A59 t55.length cp59] 28 (0, 0)) BKg74.out hb)
      replace BKg158 := Aside0.mk (blk_below (o := .cells #[.int .i64 t125, .bool t126, .int .i64 t127, .string t128, .slice A133 t129.length cp133] 28 (0, 0)) BKg158.out hb)
      replace BKg272 := Aside0.mk (blk_below (o := .cells #[.int .i64 t229, .bool t230, .int .i64 t231, .string t232, .slice A237 t233.length cp237] 28 (0, 0)) BKg272.out hb)
      replace BKg416 := Aside0.mk (blk_below (o := .cells #[.int .i64 t363, .bool t364, .int .i64 t365, .string t366, .slice A371 t367.length cp371] 28 (0, 0)) BKg416.out hb)
      replace BKg590 := Aside0.mk (blk_below (o := .cells #[.int .i64 t527, .bool t528, .int .i64 t529, .string t530, .slice A535 t531.length cp535] 28 (0, 0)) BKg590.out hb)
      replace HB := Aside0.mk (below_step HB.out hb)
      clear hb
      clear hz724 hz725 hf726 hf727 hz728 hz729 hz730 hz731 hz732 hf733 hf734 hf735 hf736 hf737 hz738 hz739 hz740 hz741 hz742 hf743 hf744 hf745 hf746 hf747 hz748 hz749 hz750 hz751 hz752 hf753 hf754 hf755 hf756 hf757 hz758 hz759 hz760 hz761 hz762 hf763 hf764 hf765 hf766 hf767 hz768 hz769 hz770 hz771 hz772 hf773 hf774 hf775 hf776 hf777 hz778 hz779 hz780 hz781 hz782 hf783 hf784 hf785 hf786 hf787
      have hz795 : w794.cell? ⟨g1, 0, none⟩ = some (.int .i64 a0_0) := (blk_cell BKg1.out 0).trans rfl
      have hz796 : w794.cell? ⟨g1, 1, none⟩ = some (.int .i64 a0_1) := (blk_cell BKg1.out 1).trans rfl
      have hf797 := blk_frozen BKg1.out 0
      have hf798 := blk_frozen BKg1.out 1
      have hz799 : w794.cell? ⟨g20, 0, none⟩ = some (.int .i64 t7) := (blk_cell BKg20.out 0).trans rfl
      have hz800 : w794.cell? ⟨g20, 1, none⟩ = some (.bool t8) := (blk_cell BKg20.out 1).trans rfl
      have hz801 : w794.cell? ⟨g20, 2, none⟩ = some (.int .i64 t9) := (blk_cell BKg20.out 2).trans rfl
      have hz802 : w794.cell? ⟨g20, 3, none⟩ = some (.string t10) := (blk_cell BKg20.out 3).trans rfl
      have hz803 : w794.cell? ⟨g20, 4, none⟩ = some (.slice A15 t11.length cp15) := (blk_cell BKg20.out 4).trans rfl
      have hf804 := blk_frozen BKg20.out 0
      have hf805 := blk_frozen BKg20.out 1
      have hf806 := blk_frozen BKg20.out 2
      have hf807 := blk_frozen BKg20.out 3
      have hf808 := blk_frozen BKg20.out 4
      have hz809 : w794.cell? ⟨g74, 0, none⟩ = some (.int .i64 t51) := (blk_cell BKg74.out 0).trans rfl
      have hz810 : w794.cell? ⟨g74, 1, none⟩ = some (.bool t52) := (blk_cell BKg74.out 1).trans rfl
      have hz811 : w794.cell? ⟨g74, 2, none⟩ = some (.int .i64 t53) := (blk_cell BKg74.out 2).trans rfl
      have hz812 : w794.cell? ⟨g74, 3, none⟩ = some (.string t54) := (blk_cell BKg74.out 3).trans rfl
      have hz813 : w794.cell? ⟨g74, 4, none⟩ = some (.slice A59 t55.length cp59) := (blk_cell BKg74.out 4).trans rfl
      have hf814 := blk_frozen BKg74.out 0
      have hf815 := blk_frozen BKg74.out 1
      have hf816 := blk_frozen BKg74.out 2
      have hf817 := blk_frozen BKg74.out 3
      have hf818 := blk_frozen BKg74.out 4
      have hz819 : w794.cell? ⟨g158, 0, none⟩ = some (.int .i64 t125) := (blk_cell BKg158.out 0).trans rfl
      have hz820 : w794.cell? ⟨g158, 1, none⟩ = some (.bool t126) := (blk_cell BKg158.out 1).trans rfl
      have hz821 : w794.cell? ⟨g158, 2, none⟩ = some (.int .i64 t127) := (blk_cell BKg158.out 2).trans rfl
      have hz822 : w794.cell? ⟨g158, 3, none⟩ = some (.string t128) := (blk_cell BKg158.out 3).trans rfl
      have hz823 : w794.cell? ⟨g158, 4, none⟩ = some (.slice A133 t129.length cp133) := (blk_cell BKg158.out 4).trans rfl
      have hf824 := blk_frozen BKg158.out 0
      have hf825 := blk_frozen BKg158.out 1
      have hf826 := blk_frozen BKg158.out 2
      have hf827 := blk_frozen BKg158.out 3
      have hf828 := blk_frozen BKg158.out 4
      have hz829 : w794.cell? ⟨g272, 0, none⟩ = some (.int .i64 t229) := (blk_cell BKg272.out 0).trans rfl
      have hz830 : w794.cell? ⟨g272, 1, none⟩ = some (.bool t230) := (blk_cell BKg272.out 1).trans rfl
      have hz831 : w794.cell? ⟨g272, 2, none⟩ = some (.int .i64 t231) := (blk_cell BKg272.out 2).trans rfl
      have hz832 : w794.cell? ⟨g272, 3, none⟩ = some (.string t232) := (blk_cell BKg272.out 3).trans rfl
      have hz833 : w794.cell? ⟨g272, 4, none⟩ = some (.slice A237 t233.length cp237) := (blk_cell BKg272.out 4).trans rfl
      have hf834 := blk_frozen BKg272.out 0
      have hf835 := blk_frozen BKg272.out 1
      have hf836 := blk_frozen BKg272.out 2
      have hf837 := blk_frozen BKg272.out 3
      have hf838 := blk_frozen BKg272.out 4
      have hz839 : w794.cell? ⟨g416, 0, none⟩ = some (.int .i64 t363) := (blk_cell BKg416.out 0).trans rfl
      have hz840 : w794.cell? ⟨g416, 1, none⟩ = some (.bool t364) := (blk_cell BKg416.out 1).trans rfl
      have hz841 : w794.cell? ⟨g416, 2, none⟩ = some (.int .i64 t365) := (blk_cell BKg416.out 2).trans rfl
      have hz842 : w794.cell? ⟨g416, 3, none⟩ = some (.string t366) := (blk_cell BKg416.out 3).trans rfl
      have hz843 : w794.cell? ⟨g416, 4, none⟩ = some (.slice A371 t367.length cp371) := (blk_cell BKg416.out 4).trans rfl
      have hf844 := blk_frozen BKg416.out 0
      have hf845 := blk_frozen BKg416.out 1
      have hf846 := blk_frozen BKg416.out 2
      have hf847 := blk_frozen BKg416.out 3
      have hf848 := blk_frozen BKg416.out 4
      have hz849 : w794.cell? ⟨g590, 0, none⟩ = some (.int .i64 t527) := (blk_cell BKg590.out 0).trans rfl
      have hz850 : w794.cell? ⟨g590, 1, none⟩ = some (.bool t528) := (blk_cell BKg590.out 1).trans rfl
      have hz851 : w794.cell? ⟨g590, 2, none⟩ = some (.int .i64 t529) := (blk_cell BKg590.out 2).trans rfl
      have hz852 : w794.cell? ⟨g590, 3, none⟩ = some (.string t530) := (blk_cell BKg590.out 3).trans rfl
      have hz853 : w794.cell? ⟨g590, 4, none⟩ = some (.slice A535 t531.length cp535) := (blk_cell BKg590.out 4).trans rfl
      have hf854 := blk_frozen BKg590.out 0
      have hf855 := blk_frozen BKg590.out 1
      have hf856 := blk_frozen BKg590.out 2
      have hf857 := blk_frozen BKg590.out 3
      have hf858 := blk_frozen BKg590.out 4
      by_cases c859 : t792 = true
      · have H := HH.out
        rw [if_pos c859] at H
        replace HH := Aside0.mk H
        clear H
        subst c859
        by_cases c860 : t130 = t234
        · have H := HH.out
          rw [if_pos c860] at H
          replace HH := Aside0.mk H
          clear H
          have hk861 : (t130 == t234) = true := beq_iff_eq.mpr c860
          have hk862 : (t130 != t234) = false := bne_eq_false_iff_eq.mpr c860
          clear c860
          have H := HH.out
          replace H := Option.bind_eq_some_iff.mp H
          obtain ⟨t863, at_, H⟩ := H
          have At864 := Aside0.mk at_
          clear at_
          replace HH := Aside0.mk (show (if t863 = true then (if t368 = t532 then ((toponymlaw16_awake.f k ).bind fun t934 => (some t934)) else (some false)) else (some false)) = some r from H)
          clear H
          go_wp2_with (((with_reducible refine gate_callee (f := 12) rfl ?_); (try (refine gate_guard (by rfl) ?_; dsimp only)); refine goesL_ (some 96) rfl rfl Try.func12 (by kernel_rfl) rfl #[.agg #[.int .i64 t363, .bool t364, .int .i64 t365, .string t366, .slice A371 t367.length cp371], .agg #[.int .i64 t527, .bool t528, .int .i64 t529, .string t530, .slice A535 t531.length cp535]] rfl (by (try simp only [List.map_toArray, List.map_cons, List.map_nil]); first | done | rfl | (simp only [List.length_drop, List.length_take]; rfl)) ?_; (with_reducible refine (toponymref15_Same.calls k (fun k_ => (w.heap.size ≤ k_) ∧ k_ ≠ g1 ∧ k_ ≠ g20 ∧ k_ ≠ g74 ∧ k_ ≠ g158 ∧ k_ ≠ g272 ∧ k_ ≠ g416 ∧ k_ ≠ g590) t363 t364 t365 t366 _ _ t367 t527 t528 t529 t530 _ _ t531 t863 _ (Kd.F_mono (ok := (fun k_ => (w.heap.size ≤ k_) ∧ k_ ≠ g1 ∧ k_ ≠ g20 ∧ k_ ≠ g74 ∧ k_ ≠ g158 ∧ k_ ≠ g272 ∧ k_ ≠ g416 ∧ k_ ≠ g590)) HF371.out (fun k_ hk_ => ⟨hk_.1, hk_.2.1, hk_.2.2.1, hk_.2.2.2.1, hk_.2.2.2.2.1, hk_.2.2.2.2.2.1, hk_.2.2.2.2.2.2.1, hk_.2.2.2.2.2.2.2⟩)) HL371.out (Kd.F_mono (ok := (fun k_ => (w.heap.size ≤ k_) ∧ k_ ≠ g1 ∧ k_ ≠ g20 ∧ k_ ≠ g74 ∧ k_ ≠ g158 ∧ k_ ≠ g272 ∧ k_ ≠ g416 ∧ k_ ≠ g590)) HF535.out (fun k_ hk_ => ⟨hk_.1, hk_.2.1, hk_.2.2.1, hk_.2.2.2.1, hk_.2.2.2.2.1, hk_.2.2.2.2.2.1, hk_.2.2.2.2.2.2.1, hk_.2.2.2.2.2.2.2⟩)) HL535.out At864.out).mono ?_); rintro e w865 ⟨rfl, hb⟩; refine ⟨_, rfl, ?_⟩); refine stop_ ?_)
          refine Stop.go ?_
          replace HF15 := Aside0.mk (Kd.F_below HF15.out hb)
          replace HF59 := Aside0.mk (Kd.F_below HF59.out hb)
          replace HF133 := Aside0.mk (Kd.F_below HF133.out hb)
          replace HF237 := Aside0.mk (Kd.F_below HF237.out hb)
          replace HF371 := Aside0.mk (Kd.F_below HF371.out hb)
          replace HF535 := Aside0.mk (Kd.F_below HF535.out hb)
          replace BKg1 := Aside0.mk (blk_below (o := .cells #[.int .i64 a0_0, .int .i64 a0_1] 23 (0, 0)) BKg1.out hb)
          replace BKg20 := Aside0.mk (blk_below (o := .cells #[.int .i64 t7, .bool t8, .int .i64 t9, .string t10, .slice A15 t11.length cp15] 28 (0, 0)) BKg20.out hb)
          replace BKg74 := Aside0.mk (blk_below (o := .cells #[.int .i64 t51, .bool t52, .int .i64 t53, .string t54, .slice A59 t55.length cp59] 28 (0, 0)) BKg74.out hb)
          replace BKg158 := Aside0.mk (blk_below (o := .cells #[.int .i64 t125, .bool t126, .int .i64 t127, .string t128, .slice A133 t129.length cp133] 28 (0, 0)) BKg158.out hb)
          replace BKg272 := Aside0.mk (blk_below (o := .cells #[.int .i64 t229, .bool t230, .int .i64 t231, .string t232, .slice A237 t233.length cp237] 28 (0, 0)) BKg272.out hb)
          replace BKg416 := Aside0.mk (blk_below (o := .cells #[.int .i64 t363, .bool t364, .int .i64 t365, .string t366, .slice A371 t367.length cp371] 28 (0, 0)) BKg416.out hb)
          replace BKg590 := Aside0.mk (blk_below (o := .cells #[.int .i64 t527, .bool t528, .int .i64 t529, .string t530, .slice A535 t531.length cp535] 28 (0, 0)) BKg590.out hb)
          replace HB := Aside0.mk (below_step HB.out hb)
          clear hb
          clear hz795 hz796 hf797 hf798 hz799 hz800 hz801 hz802 hz803 hf804 hf805 hf806 hf807 hf808 hz809 hz810 hz811 hz812 hz813 hf814 hf815 hf816 hf817 hf818 hz819 hz820 hz821 hz822 hz823 hf824 hf825 hf826 hf827 hf828 hz829 hz830 hz831 hz832 hz833 hf834 hf835 hf836 hf837 hf838 hz839 hz840 hz841 hz842 hz843 hf844 hf845 hf846 hf847 hf848 hz849 hz850 hz851 hz852 hz853 hf854 hf855 hf856 hf857 hf858
          have hz866 : w865.cell? ⟨g1, 0, none⟩ = some (.int .i64 a0_0) := (blk_cell BKg1.out 0).trans rfl
          have hz867 : w865.cell? ⟨g1, 1, none⟩ = some (.int .i64 a0_1) := (blk_cell BKg1.out 1).trans rfl
          have hf868 := blk_frozen BKg1.out 0
          have hf869 := blk_frozen BKg1.out 1
          have hz870 : w865.cell? ⟨g20, 0, none⟩ = some (.int .i64 t7) := (blk_cell BKg20.out 0).trans rfl
          have hz871 : w865.cell? ⟨g20, 1, none⟩ = some (.bool t8) := (blk_cell BKg20.out 1).trans rfl
          have hz872 : w865.cell? ⟨g20, 2, none⟩ = some (.int .i64 t9) := (blk_cell BKg20.out 2).trans rfl
          have hz873 : w865.cell? ⟨g20, 3, none⟩ = some (.string t10) := (blk_cell BKg20.out 3).trans rfl
          have hz874 : w865.cell? ⟨g20, 4, none⟩ = some (.slice A15 t11.length cp15) := (blk_cell BKg20.out 4).trans rfl
          have hf875 := blk_frozen BKg20.out 0
          have hf876 := blk_frozen BKg20.out 1
          have hf877 := blk_frozen BKg20.out 2
          have hf878 := blk_frozen BKg20.out 3
          have hf879 := blk_frozen BKg20.out 4
          have hz880 : w865.cell? ⟨g74, 0, none⟩ = some (.int .i64 t51) := (blk_cell BKg74.out 0).trans rfl
          have hz881 : w865.cell? ⟨g74, 1, none⟩ = some (.bool t52) := (blk_cell BKg74.out 1).trans rfl
          have hz882 : w865.cell? ⟨g74, 2, none⟩ = some (.int .i64 t53) := (blk_cell BKg74.out 2).trans rfl
          have hz883 : w865.cell? ⟨g74, 3, none⟩ = some (.string t54) := (blk_cell BKg74.out 3).trans rfl
          have hz884 : w865.cell? ⟨g74, 4, none⟩ = some (.slice A59 t55.length cp59) := (blk_cell BKg74.out 4).trans rfl
          have hf885 := blk_frozen BKg74.out 0
          have hf886 := blk_frozen BKg74.out 1
          have hf887 := blk_frozen BKg74.out 2
          have hf888 := blk_frozen BKg74.out 3
          have hf889 := blk_frozen BKg74.out 4
          have hz890 : w865.cell? ⟨g158, 0, none⟩ = some (.int .i64 t125) := (blk_cell BKg158.out 0).trans rfl
          have hz891 : w865.cell? ⟨g158, 1, none⟩ = some (.bool t126) := (blk_cell BKg158.out 1).trans rfl
          have hz892 : w865.cell? ⟨g158, 2, none⟩ = some (.int .i64 t127) := (blk_cell BKg158.out 2).trans rfl
          have hz893 : w865.cell? ⟨g158, 3, none⟩ = some (.string t128) := (blk_cell BKg158.out 3).trans rfl
          have hz894 : w865.cell? ⟨g158, 4, none⟩ = some (.slice A133 t129.length cp133) := (blk_cell BKg158.out 4).trans rfl
          have hf895 := blk_frozen BKg158.out 0
          have hf896 := blk_frozen BKg158.out 1
          have hf897 := blk_frozen BKg158.out 2
          have hf898 := blk_frozen BKg158.out 3
          have hf899 := blk_frozen BKg158.out 4
          have hz900 : w865.cell? ⟨g272, 0, none⟩ = some (.int .i64 t229) := (blk_cell BKg272.out 0).trans rfl
          have hz901 : w865.cell? ⟨g272, 1, none⟩ = some (.bool t230) := (blk_cell BKg272.out 1).trans rfl
          have hz902 : w865.cell? ⟨g272, 2, none⟩ = some (.int .i64 t231) := (blk_cell BKg272.out 2).trans rfl
          have hz903 : w865.cell? ⟨g272, 3, none⟩ = some (.string t232) := (blk_cell BKg272.out 3).trans rfl
          have hz904 : w865.cell? ⟨g272, 4, none⟩ = some (.slice A237 t233.length cp237) := (blk_cell BKg272.out 4).trans rfl
          have hf905 := blk_frozen BKg272.out 0
          have hf906 := blk_frozen BKg272.out 1
          have hf907 := blk_frozen BKg272.out 2
          have hf908 := blk_frozen BKg272.out 3
          have hf909 := blk_frozen BKg272.out 4
          have hz910 : w865.cell? ⟨g416, 0, none⟩ = some (.int .i64 t363) := (blk_cell BKg416.out 0).trans rfl
          have hz911 : w865.cell? ⟨g416, 1, none⟩ = some (.bool t364) := (blk_cell BKg416.out 1).trans rfl
          have hz912 : w865.cell? ⟨g416, 2, none⟩ = some (.int .i64 t365) := (blk_cell BKg416.out 2).trans rfl
          have hz913 : w865.cell? ⟨g416, 3, none⟩ = some (.string t366) := (blk_cell BKg416.out 3).trans rfl
          have hz914 : w865.cell? ⟨g416, 4, none⟩ = some (.slice A371 t367.length cp371) := (blk_cell BKg416.out 4).trans rfl
          have hf915 := blk_frozen BKg416.out 0
          have hf916 := blk_frozen BKg416.out 1
          have hf917 := blk_frozen BKg416.out 2
          have hf918 := blk_frozen BKg416.out 3
          have hf919 := blk_frozen BKg416.out 4
          have hz920 : w865.cell? ⟨g590, 0, none⟩ = some (.int .i64 t527) := (blk_cell BKg590.out 0).trans rfl
          have hz921 : w865.cell? ⟨g590, 1, none⟩ = some (.bool t528) := (blk_cell BKg590.out 1).trans rfl
          have hz922 : w865.cell? ⟨g590, 2, none⟩ = some (.int .i64 t529) := (blk_cell BKg590.out 2).trans rfl
          have hz923 : w865.cell? ⟨g590, 3, none⟩ = some (.string t530) := (blk_cell BKg590.out 3).trans rfl
          have hz924 : w865.cell? ⟨g590, 4, none⟩ = some (.slice A535 t531.length cp535) := (blk_cell BKg590.out 4).trans rfl
          have hf925 := blk_frozen BKg590.out 0
          have hf926 := blk_frozen BKg590.out 1
          have hf927 := blk_frozen BKg590.out 2
          have hf928 := blk_frozen BKg590.out 3
          have hf929 := blk_frozen BKg590.out 4
          by_cases c930 : t863 = true
          · have H := HH.out
            rw [if_pos c930] at H
            replace HH := Aside0.mk H
            clear H
            subst c930
            by_cases c931 : t368 = t532
            · have H := HH.out
              rw [if_pos c931] at H
              replace HH := Aside0.mk H
              clear H
              have hk932 : (t368 == t532) = true := beq_iff_eq.mpr c931
              have hk933 : (t368 != t532) = false := bne_eq_false_iff_eq.mpr c931
              clear c931
              have H := HH.out
              replace H := Option.bind_eq_some_iff.mp H
              obtain ⟨t934, at_, H⟩ := H
              have At935 := Aside0.mk at_
              clear at_
              replace HH := Aside0.mk (show (some t934) = some r from H)
              clear H
              go_wp2_with (((with_reducible refine gate_callee (f := 8) rfl ?_); (try (refine gate_guard (by rfl) ?_; dsimp only)); refine goesL_ (some 104) rfl rfl Try.func8 (by kernel_rfl) rfl #[] rfl (by (try simp only [List.map_toArray, List.map_cons, List.map_nil]); first | done | rfl | (simp only [List.length_drop, List.length_take]; rfl)) ?_; (with_reducible refine (toponymlaw16_awake.calls k  t934 _  At935.out).mono ?_); rintro e w936 ⟨rfl, hb⟩; refine ⟨_, rfl, ?_⟩); refine stop_ ?_)
              refine Stop.go ?_
              replace HF15 := Aside0.mk (Kd.F_below HF15.out hb)
              replace HF59 := Aside0.mk (Kd.F_below HF59.out hb)
              replace HF133 := Aside0.mk (Kd.F_below HF133.out hb)
              replace HF237 := Aside0.mk (Kd.F_below HF237.out hb)
              replace HF371 := Aside0.mk (Kd.F_below HF371.out hb)
              replace HF535 := Aside0.mk (Kd.F_below HF535.out hb)
              replace BKg1 := Aside0.mk (blk_below (o := .cells #[.int .i64 a0_0, .int .i64 a0_1] 23 (0, 0)) BKg1.out hb)
              replace BKg20 := Aside0.mk (blk_below (o := .cells #[.int .i64 t7, .bool t8, .int .i64 t9, .string t10, .slice A15 t11.length cp15] 28 (0, 0)) BKg20.out hb)
              replace BKg74 := Aside0.mk (blk_below (o := .cells #[.int .i64 t51, .bool t52, .int .i64 t53, .string t54, .slice A59 t55.length cp59] 28 (0, 0)) BKg74.out hb)
              replace BKg158 := Aside0.mk (blk_below (o := .cells #[.int .i64 t125, .bool t126, .int .i64 t127, .string t128, .slice A133 t129.length cp133] 28 (0, 0)) BKg158.out hb)
              replace BKg272 := Aside0.mk (blk_below (o := .cells #[.int .i64 t229, .bool t230, .int .i64 t231, .string t232, .slice A237 t233.length cp237] 28 (0, 0)) BKg272.out hb)
              replace BKg416 := Aside0.mk (blk_below (o := .cells #[.int .i64 t363, .bool t364, .int .i64 t365, .string t366, .slice A371 t367.length cp371] 28 (0, 0)) BKg416.out hb)
              replace BKg590 := Aside0.mk (blk_below (o := .cells #[.int .i64 t527, .bool t528, .int .i64 t529, .string t530, .slice A535 t531.length cp535] 28 (0, 0)) BKg590.out hb)
              replace HB := Aside0.mk (below_step HB.out hb)
              clear hb
              clear hz866 hz867 hf868 hf869 hz870 hz871 hz872 hz873 hz874 hf875 hf876 hf877 hf878 hf879 hz880 hz881 hz882 hz883 hz884 hf885 hf886 hf887 hf888 hf889 hz890 hz891 hz892 hz893 hz894 hf895 hf896 hf897 hf898 hf899 hz900 hz901 hz902 hz903 hz904 hf905 hf906 hf907 hf908 hf909 hz910 hz911 hz912 hz913 hz914 hf915 hf916 hf917 hf918 hf919 hz920 hz921 hz922 hz923 hz924 hf925 hf926 hf927 hf928 hf929
              have hz937 : w936.cell? ⟨g1, 0, none⟩ = some (.int .i64 a0_0) := (blk_cell BKg1.out 0).trans rfl
              have hz938 : w936.cell? ⟨g1, 1, none⟩ = some (.int .i64 a0_1) := (blk_cell BKg1.out 1).trans rfl
              have hf939 := blk_frozen BKg1.out 0
              have hf940 := blk_frozen BKg1.out 1
              have hz941 : w936.cell? ⟨g20, 0, none⟩ = some (.int .i64 t7) := (blk_cell BKg20.out 0).trans rfl
              have hz942 : w936.cell? ⟨g20, 1, none⟩ = some (.bool t8) := (blk_cell BKg20.out 1).trans rfl
              have hz943 : w936.cell? ⟨g20, 2, none⟩ = some (.int .i64 t9) := (blk_cell BKg20.out 2).trans rfl
              have hz944 : w936.cell? ⟨g20, 3, none⟩ = some (.string t10) := (blk_cell BKg20.out 3).trans rfl
              have hz945 : w936.cell? ⟨g20, 4, none⟩ = some (.slice A15 t11.length cp15) := (blk_cell BKg20.out 4).trans rfl
              have hf946 := blk_frozen BKg20.out 0
              have hf947 := blk_frozen BKg20.out 1
              have hf948 := blk_frozen BKg20.out 2
              have hf949 := blk_frozen BKg20.out 3
              have hf950 := blk_frozen BKg20.out 4
              have hz951 : w936.cell? ⟨g74, 0, none⟩ = some (.int .i64 t51) := (blk_cell BKg74.out 0).trans rfl
              have hz952 : w936.cell? ⟨g74, 1, none⟩ = some (.bool t52) := (blk_cell BKg74.out 1).trans rfl
              have hz953 : w936.cell? ⟨g74, 2, none⟩ = some (.int .i64 t53) := (blk_cell BKg74.out 2).trans rfl
              have hz954 : w936.cell? ⟨g74, 3, none⟩ = some (.string t54) := (blk_cell BKg74.out 3).trans rfl
              have hz955 : w936.cell? ⟨g74, 4, none⟩ = some (.slice A59 t55.length cp59) := (blk_cell BKg74.out 4).trans rfl
              have hf956 := blk_frozen BKg74.out 0
              have hf957 := blk_frozen BKg74.out 1
              have hf958 := blk_frozen BKg74.out 2
              have hf959 := blk_frozen BKg74.out 3
              have hf960 := blk_frozen BKg74.out 4
              have hz961 : w936.cell? ⟨g158, 0, none⟩ = some (.int .i64 t125) := (blk_cell BKg158.out 0).trans rfl
              have hz962 : w936.cell? ⟨g158, 1, none⟩ = some (.bool t126) := (blk_cell BKg158.out 1).trans rfl
              have hz963 : w936.cell? ⟨g158, 2, none⟩ = some (.int .i64 t127) := (blk_cell BKg158.out 2).trans rfl
              have hz964 : w936.cell? ⟨g158, 3, none⟩ = some (.string t128) := (blk_cell BKg158.out 3).trans rfl
              have hz965 : w936.cell? ⟨g158, 4, none⟩ = some (.slice A133 t129.length cp133) := (blk_cell BKg158.out 4).trans rfl
              have hf966 := blk_frozen BKg158.out 0
              have hf967 := blk_frozen BKg158.out 1
              have hf968 := blk_frozen BKg158.out 2
              have hf969 := blk_frozen BKg158.out 3
              have hf970 := blk_frozen BKg158.out 4
              have hz971 : w936.cell? ⟨g272, 0, none⟩ = some (.int .i64 t229) := (blk_cell BKg272.out 0).trans rfl
              have hz972 : w936.cell? ⟨g272, 1, none⟩ = some (.bool t230) := (blk_cell BKg272.out 1).trans rfl
              have hz973 : w936.cell? ⟨g272, 2, none⟩ = some (.int .i64 t231) := (blk_cell BKg272.out 2).trans rfl
              have hz974 : w936.cell? ⟨g272, 3, none⟩ = some (.string t232) := (blk_cell BKg272.out 3).trans rfl
              have hz975 : w936.cell? ⟨g272, 4, none⟩ = some (.slice A237 t233.length cp237) := (blk_cell BKg272.out 4).trans rfl
              have hf976 := blk_frozen BKg272.out 0
              have hf977 := blk_frozen BKg272.out 1
              have hf978 := blk_frozen BKg272.out 2
              have hf979 := blk_frozen BKg272.out 3
              have hf980 := blk_frozen BKg272.out 4
              have hz981 : w936.cell? ⟨g416, 0, none⟩ = some (.int .i64 t363) := (blk_cell BKg416.out 0).trans rfl
              have hz982 : w936.cell? ⟨g416, 1, none⟩ = some (.bool t364) := (blk_cell BKg416.out 1).trans rfl
              have hz983 : w936.cell? ⟨g416, 2, none⟩ = some (.int .i64 t365) := (blk_cell BKg416.out 2).trans rfl
              have hz984 : w936.cell? ⟨g416, 3, none⟩ = some (.string t366) := (blk_cell BKg416.out 3).trans rfl
              have hz985 : w936.cell? ⟨g416, 4, none⟩ = some (.slice A371 t367.length cp371) := (blk_cell BKg416.out 4).trans rfl
              have hf986 := blk_frozen BKg416.out 0
              have hf987 := blk_frozen BKg416.out 1
              have hf988 := blk_frozen BKg416.out 2
              have hf989 := blk_frozen BKg416.out 3
              have hf990 := blk_frozen BKg416.out 4
              have hz991 : w936.cell? ⟨g590, 0, none⟩ = some (.int .i64 t527) := (blk_cell BKg590.out 0).trans rfl
              have hz992 : w936.cell? ⟨g590, 1, none⟩ = some (.bool t528) := (blk_cell BKg590.out 1).trans rfl
              have hz993 : w936.cell? ⟨g590, 2, none⟩ = some (.int .i64 t529) := (blk_cell BKg590.out 2).trans rfl
              have hz994 : w936.cell? ⟨g590, 3, none⟩ = some (.string t530) := (blk_cell BKg590.out 3).trans rfl
              have hz995 : w936.cell? ⟨g590, 4, none⟩ = some (.slice A535 t531.length cp535) := (blk_cell BKg590.out 4).trans rfl
              have hf996 := blk_frozen BKg590.out 0
              have hf997 := blk_frozen BKg590.out 1
              have hf998 := blk_frozen BKg590.out 2
              have hf999 := blk_frozen BKg590.out 3
              have hf1000 := blk_frozen BKg590.out 4
              have H := HH.out
              obtain rfl := Option.some.inj H
              clear HH
              go_wp2
              go_ret
              exact ⟨by first | rfl | (simp; done) | (simp [*]; done), HB.out⟩
            · have H := HH.out
              rw [if_neg c931] at H
              replace HH := Aside0.mk H
              clear H
              have hk1001 : (t368 == t532) = false := beq_eq_false_iff_ne.mpr c931
              have hk1002 : (t368 != t532) = true := bne_iff_ne.mpr c931
              clear c931
              have H := HH.out
              obtain rfl := Option.some.inj H
              clear HH
              go_wp2
              go_ret
              exact ⟨by first | rfl | (simp; done) | (simp [*]; done), HB.out⟩
          · have H := HH.out
            rw [if_neg c930] at H
            replace HH := Aside0.mk H
            clear H
            replace c930 := Bool.eq_false_iff.mpr c930
            subst c930
            have H := HH.out
            obtain rfl := Option.some.inj H
            clear HH
            go_wp2
            go_ret
            exact ⟨by first | rfl | (simp; done) | (simp [*]; done), HB.out⟩
        · have H := HH.out
          rw [if_neg c860] at H
          replace HH := Aside0.mk H
          clear H
          have hk1003 : (t130 == t234) = false := beq_eq_false_iff_ne.mpr c860
          have hk1004 : (t130 != t234) = true := bne_iff_ne.mpr c860
          clear c860
          have H := HH.out
          obtain rfl := Option.some.inj H
          clear HH
          go_wp2
          go_ret
          exact ⟨by first | rfl | (simp; done) | (simp [*]; done), HB.out⟩
      · have H := HH.out
        rw [if_neg c859] at H
        replace HH := Aside0.mk H
        clear H
        replace c859 := Bool.eq_false_iff.mpr c859
        subst c859
        have H := HH.out
        obtain rfl := Option.some.inj H
        clear HH
        go_wp2
        go_ret
        exact ⟨by first | rfl | (simp; done) | (simp [*]; done), HB.out⟩
    · have H := HH.out
      rw [if_neg c789] at H
      replace HH := Aside0.mk H
      clear H
      have hk1005 : (t12 == t56) = false := beq_eq_false_iff_ne.mpr c789
      have hk1006 : (t12 != t56) = true := bne_iff_ne.mpr c789
      clear c789
      have H := HH.out
      obtain rfl := Option.some.inj H
      clear HH
      go_wp2
      go_ret
      exact ⟨by first | rfl | (simp; done) | (simp [*]; done), HB.out⟩
  · have H := HH.out
    rw [if_neg c788] at H
    replace HH := Aside0.mk H
    clear H
    replace c788 := Bool.eq_false_iff.mpr c788
    subst c788
    have H := HH.out
    obtain rfl := Option.some.inj H
    clear HH
    go_wp2
    go_ret
    exact ⟨by first | rfl | (simp; done) | (simp [*]; done), HB.out⟩

end Go.Proofs.Ytliackbiljhioaa.GA
