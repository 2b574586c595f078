-- written by wip/gen.py, a program of this session
import Derived.Test.YtliackbiljhioaaGA0
import Derived.Test.YtliackbiljhioaaGAF10
import Derived.Test.YtliackbiljhioaaGAF13
import Derived.Test.YtliackbiljhioaaGAF14
import Derived.Test.YtliackbiljhioaaGAF15
import Derived.Test.YtliackbiljhioaaGAF17
namespace Go.Proofs.Ytliackbiljhioaa.GA
open Go.RowKit Go.Proofs.Ytliackbiljhioaa Go.Proofs.Ytliackbiljhioaa.MW Go.Proofs.YtliackbiljhioaaW.PrintWords Go.Proofs.YtliackbiljhioaaW.PrintLast Go.Proofs.YtliackbiljhioaaW.PrintMore
attribute [local go_sem] max2_int min2_int max_two min_two
set_option linter.unusedVariables false
set_option linter.unusedSimpArgs false

/-! ### toponymlaw16_awake: function 8 -/
def toponymlaw16_awake.f (k : Nat)  : Option (Bool) := (prims_Int.f k 0 2 128).bind fun bt1 => ((prims_Bool.f 0 1 true).bind fun bt33 => ((prims_Group.f 0 16 [(⟨bt1.1, bt1.2.1, bt1.2.2.1, bt1.2.2.2.1, bt1.2.2.2.2.1⟩ : S28), (⟨bt33.1, bt33.2.1, bt33.2.2.1, bt33.2.2.2.1, bt33.2.2.2.2.1⟩ : S28)]).bind fun bt122 => ((prims_AsInt.f k 0 false 0 (⟨#[255, 127]⟩ : ByteArray) ([] : List (S28))).bind fun bt214 => ((prims_AsInt.f k 0 false 0 (⟨#[0, 5]⟩ : ByteArray) ([] : List (S28))).bind fun bt248 => (if bt1.2.2.2.1.toList = ([0, 128] : List UInt8) then (if bt1.2.2.2.2.2 = 0 then (if bt33.2.2.2.1.toList = ([255] : List UInt8) then (if bt33.2.2.2.2.2 = 0 then (if bt122.2.1 = true then (if (bt122.2.2.2.2.1.length : Int) = 2 then (if bt122.2.2.2.2.2 = 0 then (if bt214.1 = (-129) then (if bt214.2 = 0 then (if bt248.2 = 160 then ((prims_Is.f bt122.1 true bt122.2.2.1 bt122.2.2.2.1 bt122.2.2.2.2.1 0 16 true).bind fun t310 => (some t310)) else (some false)) else (some false)) else (some false)) else (some false)) else (some false)) else (some false)) else (some false)) else (some false)) else (some false)) else (some false))))))
theorem toponymlaw16_awake.mono : ∀ k, LeO (toponymlaw16_awake.f k ) (toponymlaw16_awake.f (k + 1) ) := by
  intro  k
  unfold toponymlaw16_awake.f
  repeat' first
      | (with_reducible exact prims_AsInt.mono _ _ _ _ _ _)
      | (with_reducible exact prims_Int.mono _ _ _ _)
      | (with_reducible exact LeO.refl _)
      | (with_reducible exact LeO.none _)
      | (with_reducible refine LeO.ite ?_ ?_)
      | (with_reducible refine LeO.bind ?_ (fun _ => ?_))
      | exact prims_AsInt.mono _ _ _ _ _ _
      | exact prims_Int.mono _ _ _ _
      | exact LeO.none _
      | refine LeO.ite ?_ ?_
      | refine LeO.bind ?_ (fun _ => ?_)
set_option maxHeartbeats 8000000 in
set_option maxRecDepth 100000 in
theorem toponymlaw16_awake.calls (k : Nat) (r : Bool) (w : World) (h : toponymlaw16_awake.f k  = some r) :
    Calls Try.prog 8 #[] w (fun e w' => e = .returned (.bool r) ∧ Below w.heap.size w w') := by
  have HH := Aside0.mk (show ((prims_Int.f k 0 2 128).bind fun bt1 => ((prims_Bool.f 0 1 true).bind fun bt33 => ((prims_Group.f 0 16 [(⟨bt1.1, bt1.2.1, bt1.2.2.1, bt1.2.2.2.1, bt1.2.2.2.2.1⟩ : S28), (⟨bt33.1, bt33.2.1, bt33.2.2.1, bt33.2.2.2.1, bt33.2.2.2.2.1⟩ : S28)]).bind fun bt122 => ((prims_AsInt.f k 0 false 0 (⟨#[255, 127]⟩ : ByteArray) ([] : List (S28))).bind fun bt214 => ((prims_AsInt.f k 0 false 0 (⟨#[0, 5]⟩ : ByteArray) ([] : List (S28))).bind fun bt248 => (if bt1.2.2.2.1.toList = ([0, 128] : List UInt8) then (if bt1.2.2.2.2.2 = 0 then (if bt33.2.2.2.1.toList = ([255] : List UInt8) then (if bt33.2.2.2.2.2 = 0 then (if bt122.2.1 = true then (if (bt122.2.2.2.2.1.length : Int) = 2 then (if bt122.2.2.2.2.2 = 0 then (if bt214.1 = (-129) then (if bt214.2 = 0 then (if bt248.2 = 160 then ((prims_Is.f bt122.1 true bt122.2.2.1 bt122.2.2.2.1 bt122.2.2.2.2.1 0 16 true).bind fun t310 => (some t310)) else (some false)) else (some false)) else (some false)) else (some false)) else (some false)) else (some false)) else (some false)) else (some false)) else (some false)) else (some false))))))) = some r from h)
  clear h
  have HB := Aside0.mk (Below.refl w.heap.size w)
  have hu28 := Try.underlying28
  go_enter Try.func8, Try.ntmps8
  have H := HH.out
  replace H := Option.bind_eq_some_iff.mp H
  obtain ⟨⟨t1, t2, t3, t4, t5, t6⟩, at_, H⟩ := H
  have At7 := Aside0.mk at_
  clear at_
  replace HH := Aside0.mk (show ((prims_Bool.f 0 1 true).bind fun bt33 => ((prims_Group.f 0 16 [(⟨t1, t2, t3, t4, t5⟩ : S28), (⟨bt33.1, bt33.2.1, bt33.2.2.1, bt33.2.2.2.1, bt33.2.2.2.2.1⟩ : S28)]).bind fun bt122 => ((prims_AsInt.f k 0 false 0 (⟨#[255, 127]⟩ : ByteArray) ([] : List (S28))).bind fun bt214 => ((prims_AsInt.f k 0 false 0 (⟨#[0, 5]⟩ : ByteArray) ([] : List (S28))).bind fun bt248 => (if t4.toList = ([0, 128] : List UInt8) then (if t6 = 0 then (if bt33.2.2.2.1.toList = ([255] : List UInt8) then (if bt33.2.2.2.2.2 = 0 then (if bt122.2.1 = true then (if (bt122.2.2.2.2.1.length : Int) = 2 then (if bt122.2.2.2.2.2 = 0 then (if bt214.1 = (-129) then (if bt214.2 = 0 then (if bt248.2 = 160 then ((prims_Is.f bt122.1 true bt122.2.2.1 bt122.2.2.2.1 bt122.2.2.2.2.1 0 16 true).bind fun t310 => (some t310)) else (some false)) else (some false)) else (some false)) else (some false)) else (some false)) else (some false)) else (some false)) else (some false)) else (some false)) else (some false)))))) = some r from H)
  clear H
  go_wp2_with (((with_reducible refine gate_callee (f := 15) rfl ?_); (try (refine gate_guard (by rfl) ?_; dsimp only)); refine goesL_ (some 12) rfl rfl Try.func15 (by kernel_rfl) rfl #[.int .i64 0, .int .i64 2, .int .i64 128] rfl (by (try simp only [List.map_toArray, List.map_cons, List.map_nil]); first | done | rfl | (simp only [List.length_drop, List.length_take]; rfl)) ?_; (with_reducible refine (prims_Int.calls k  0 2 128 t1 t2 t3 t4 t5 t6 _  At7.out).mono ?_); rintro e w8 ⟨v9, rfl, hn9, hb⟩; refine ⟨_, rfl, ?_⟩); refine stop_ ?_)
  refine Stop.go ?_
  obtain ⟨A9, cp9, he_⟩ := Kd.N_slice hn9
  subst he_
  have HL9 := Aside0.mk (Kd.N_reads' hn9).2.1
  have HF9 := Aside0.mk (Kd.F_mono (Kd.N_F hn9) (fun k_ h_ => (Nat.le_trans (below_size HB.out) h_)) : Kd.F k28 _ (fun k_ => (w.heap.size ≤ k_)) _ _ _)
  clear hn9
  replace HB := Aside0.mk (below_step HB.out hb)
  clear hb
  go_wp2_with (((with_reducible refine gate_dst (N := 1) rfl ?_); (try (refine gate_guard (by rfl) ?_; dsimp only)); refine box_event ?hg (N := 1) ?hd (cs := #[.int .i64 0, .bool false, .int .i64 0, .string (⟨#[]⟩ : ByteArray), .slice none 0 0]) (t := 28) ?hr ?_; (case hd => rfl); (case hg => rfl); (case hr => first | (go_simp; done) | (go_simp; rfl)); intro g10 hg w11 hbox hb); replace hg := Aside0.mk hg; replace hbox := Aside0.mk hbox; refine stop_ ?_)
  refine Stop.go ?_
  replace hg := hg.out
  replace hbox := hbox.out
  have GEg10 := Aside0.mk (by rw [hg]; exact (below_size HB.out) : w.heap.size ≤ g10)
  replace HF9 := Aside0.mk (Kd.F_elderB HF9.out g10 (Nat.le_of_eq hg.symm))
  replace HF9 := Aside0.mk (Kd.F_mono HF9.out (fun k_ hk_ => ⟨hk_.1, hk_.2⟩) : Kd.F k28 _ (fun k_ => (w.heap.size ≤ k_) ∧ k_ ≠ g10) _ _ _)
  replace HF9 := Aside0.mk (Kd.F_below HF9.out hb)
  replace HB := Aside0.mk (below_step HB.out hb)
  have BKg10 := Aside0.mk hbox
  clear hg hbox hb
  have hz12 : w11.cell? ⟨g10, 0, none⟩ = some (.int .i64 0) := (blk_cell BKg10.out 0).trans rfl
  have hz13 : w11.cell? ⟨g10, 1, none⟩ = some (.bool false) := (blk_cell BKg10.out 1).trans rfl
  have hz14 : w11.cell? ⟨g10, 2, none⟩ = some (.int .i64 0) := (blk_cell BKg10.out 2).trans rfl
  have hz15 : w11.cell? ⟨g10, 3, none⟩ = some (.string (⟨#[]⟩ : ByteArray)) := (blk_cell BKg10.out 3).trans rfl
  have hz16 : w11.cell? ⟨g10, 4, none⟩ = some (.slice none 0 0) := (blk_cell BKg10.out 4).trans rfl
  have hf17 := blk_frozen BKg10.out 0
  have hf18 := blk_frozen BKg10.out 1
  have hf19 := blk_frozen BKg10.out 2
  have hf20 := blk_frozen BKg10.out 3
  have hf21 := blk_frozen BKg10.out 4
  go_wp2_with (((with_reducible refine gate_store (t := 28) (p := 1) rfl ?_); (try (refine gate_guard (by rfl) ?_; dsimp only)); refine MW.ev_store #[.int .i64 t1, .bool t2, .int .i64 t3, .string t4, .slice A9 t5.length cp9] rfl rfl rfl rfl (cs := #[.int .i64 0, .bool false, .int .i64 0, .string (⟨#[]⟩ : ByteArray), .slice none 0 0]) (ty := 28) BKg10.out [.int .i64 t1, .bool t2, .int .i64 t3, .string t4, .slice A9 t5.length cp9] rfl (by kernel_rfl) (by simp) (by simp [Value.oneCell']) rfl ?_; intro w22 hbk hg); replace hbk := Aside0.mk hbk; refine stop_ ?_)
  refine Stop.go ?_
  replace hbk := hbk.out
  replace HF9 := Aside0.mk (Kd.F_grown (ok := (fun k_ => (w.heap.size ≤ k_) ∧ k_ ≠ g10)) HF9.out hg (fun k_ hk_ he_ => hk_.2 (Option.some.inj he_)))
  replace HB := Aside0.mk (Below.grown HB.out hg (below_size HB.out) (fun k_ hk_ => by injection hk_ with hk_; rw [← hk_]; exact GEg10.out))
  replace BKg10 := Aside0.mk hbk
  clear hg hbk
  clear hz12 hz13 hz14 hz15 hz16 hf17 hf18 hf19 hf20 hf21
  have hz23 : w22.cell? ⟨g10, 0, none⟩ = some (.int .i64 t1) := (blk_cell BKg10.out 0).trans rfl
  have hz24 : w22.cell? ⟨g10, 1, none⟩ = some (.bool t2) := (blk_cell BKg10.out 1).trans rfl
  have hz25 : w22.cell? ⟨g10, 2, none⟩ = some (.int .i64 t3) := (blk_cell BKg10.out 2).trans rfl
  have hz26 : w22.cell? ⟨g10, 3, none⟩ = some (.string t4) := (blk_cell BKg10.out 3).trans rfl
  have hz27 : w22.cell? ⟨g10, 4, none⟩ = some (.slice A9 t5.length cp9) := (blk_cell BKg10.out 4).trans rfl
  have hf28 := blk_frozen BKg10.out 0
  have hf29 := blk_frozen BKg10.out 1
  have hf30 := blk_frozen BKg10.out 2
  have hf31 := blk_frozen BKg10.out 3
  have hf32 := blk_frozen BKg10.out 4
  have H := HH.out
  replace H := Option.bind_eq_some_iff.mp H
  obtain ⟨⟨t33, t34, t35, t36, t37, t38⟩, at_, H⟩ := H
  have At39 := Aside0.mk at_
  clear at_
  replace HH := Aside0.mk (show ((prims_Group.f 0 16 [(⟨t1, t2, t3, t4, t5⟩ : S28), (⟨t33, t34, t35, t36, t37⟩ : S28)]).bind fun bt122 => ((prims_AsInt.f k 0 false 0 (⟨#[255, 127]⟩ : ByteArray) ([] : List (S28))).bind fun bt214 => ((prims_AsInt.f k 0 false 0 (⟨#[0, 5]⟩ : ByteArray) ([] : List (S28))).bind fun bt248 => (if t4.toList = ([0, 128] : List UInt8) then (if t6 = 0 then (if t36.toList = ([255] : List UInt8) then (if t38 = 0 then (if bt122.2.1 = true then (if (bt122.2.2.2.2.1.length : Int) = 2 then (if bt122.2.2.2.2.2 = 0 then (if bt214.1 = (-129) then (if bt214.2 = 0 then (if bt248.2 = 160 then ((prims_Is.f bt122.1 true bt122.2.2.1 bt122.2.2.2.1 bt122.2.2.2.2.1 0 16 true).bind fun t310 => (some t310)) else (some false)) else (some false)) else (some false)) else (some false)) else (some false)) else (some false)) else (some false)) else (some false)) else (some false)) else (some false))))) = some r from H)
  clear H
  go_wp2_with (((with_reducible refine gate_callee (f := 17) rfl ?_); (try (refine gate_guard (by rfl) ?_; dsimp only)); refine goesL_ (some 16) rfl rfl Try.func17 (by kernel_rfl) rfl #[.int .i64 0, .int .i64 1, .bool true] rfl (by (try simp only [List.map_toArray, List.map_cons, List.map_nil]); first | done | rfl | (simp only [List.length_drop, List.length_take]; rfl)) ?_; (with_reducible refine (prims_Bool.calls  0 1 true t33 t34 t35 t36 t37 t38 _  At39.out).mono ?_); rintro e w40 ⟨v41, rfl, hn41, hb⟩; refine ⟨_, rfl, ?_⟩); refine stop_ ?_)
  refine Stop.go ?_
  obtain ⟨A41, cp41, he_⟩ := Kd.N_slice hn41
  subst he_
  have HL41 := Aside0.mk (Kd.N_reads' hn41).2.1
  have HF41 := Aside0.mk (Kd.F_mono (Kd.N_F hn41) (fun k_ h_ => ⟨(Nat.le_trans (below_size HB.out) h_), Kd.freshB (o := .cells #[.int .i64 t1, .bool t2, .int .i64 t3, .string t4, .slice A9 t5.length cp9] 28 (0, 0)) BKg10.out k_ h_⟩) : Kd.F k28 _ (fun k_ => (w.heap.size ≤ k_) ∧ k_ ≠ g10) _ _ _)
  clear hn41
  replace HF9 := Aside0.mk (Kd.F_below HF9.out hb)
  replace BKg10 := Aside0.mk (blk_below (o := .cells #[.int .i64 t1, .bool t2, .int .i64 t3, .string t4, .slice A9 t5.length cp9] 28 (0, 0)) BKg10.out hb)
  replace HB := Aside0.mk (below_step HB.out hb)
  clear hb
  clear hz23 hz24 hz25 hz26 hz27 hf28 hf29 hf30 hf31 hf32
  have hz42 : w40.cell? ⟨g10, 0, none⟩ = some (.int .i64 t1) := (blk_cell BKg10.out 0).trans rfl
  have hz43 : w40.cell? ⟨g10, 1, none⟩ = some (.bool t2) := (blk_cell BKg10.out 1).trans rfl
  have hz44 : w40.cell? ⟨g10, 2, none⟩ = some (.int .i64 t3) := (blk_cell BKg10.out 2).trans rfl
  have hz45 : w40.cell? ⟨g10, 3, none⟩ = some (.string t4) := (blk_cell BKg10.out 3).trans rfl
  have hz46 : w40.cell? ⟨g10, 4, none⟩ = some (.slice A9 t5.length cp9) := (blk_cell BKg10.out 4).trans rfl
  have hf47 := blk_frozen BKg10.out 0
  have hf48 := blk_frozen BKg10.out 1
  have hf49 := blk_frozen BKg10.out 2
  have hf50 := blk_frozen BKg10.out 3
  have hf51 := blk_frozen BKg10.out 4
  go_wp2_with (((with_reducible refine gate_dst (N := 3) rfl ?_); (try (refine gate_guard (by rfl) ?_; dsimp only)); refine box_event ?hg (N := 3) ?hd (cs := #[.int .i64 0, .bool false, .int .i64 0, .string (⟨#[]⟩ : ByteArray), .slice none 0 0]) (t := 28) ?hr ?_; (case hd => rfl); (case hg => rfl); (case hr => first | (go_simp; done) | (go_simp; rfl)); intro g52 hg w53 hbox hb); replace hg := Aside0.mk hg; replace hbox := Aside0.mk hbox; refine stop_ ?_)
  refine Stop.go ?_
  replace hg := hg.out
  replace hbox := hbox.out
  have GEg52 := Aside0.mk (by rw [hg]; exact (below_size HB.out) : w.heap.size ≤ g52)
  replace HF9 := Aside0.mk (Kd.F_elderB HF9.out g52 (Nat.le_of_eq hg.symm))
  replace HF9 := Aside0.mk (Kd.F_mono HF9.out (fun k_ hk_ => ⟨hk_.1.1, hk_.1.2, hk_.2⟩) : Kd.F k28 _ (fun k_ => (w.heap.size ≤ k_) ∧ k_ ≠ g10 ∧ k_ ≠ g52) _ _ _)
  replace HF41 := Aside0.mk (Kd.F_elderB HF41.out g52 (Nat.le_of_eq hg.symm))
  replace HF41 := Aside0.mk (Kd.F_mono HF41.out (fun k_ hk_ => ⟨hk_.1.1, hk_.1.2, hk_.2⟩) : Kd.F k28 _ (fun k_ => (w.heap.size ≤ k_) ∧ k_ ≠ g10 ∧ k_ ≠ g52) _ _ _)
  have NEg10_g52 := Aside0.mk (by rw [hg]; exact Nat.ne_of_lt (blk_lt (o := .cells #[.int .i64 t1, .bool t2, .int .i64 t3, .string t4, .slice A9 t5.length cp9] 28 (0, 0)) BKg10.out) : g10 ≠ g52)
  have NEg52_g10 := Aside0.mk (Ne.symm NEg10_g52.out)
  replace HF9 := Aside0.mk (Kd.F_below HF9.out hb)
  replace HF41 := Aside0.mk (Kd.F_below HF41.out hb)
  replace BKg10 := Aside0.mk (blk_below (o := .cells #[.int .i64 t1, .bool t2, .int .i64 t3, .string t4, .slice A9 t5.length cp9] 28 (0, 0)) BKg10.out hb)
  replace HB := Aside0.mk (below_step HB.out hb)
  have BKg52 := Aside0.mk hbox
  clear hg hbox hb
  clear hz42 hz43 hz44 hz45 hz46 hf47 hf48 hf49 hf50 hf51
  have hz54 : w53.cell? ⟨g10, 0, none⟩ = some (.int .i64 t1) := (blk_cell BKg10.out 0).trans rfl
  have hz55 : w53.cell? ⟨g10, 1, none⟩ = some (.bool t2) := (blk_cell BKg10.out 1).trans rfl
  have hz56 : w53.cell? ⟨g10, 2, none⟩ = some (.int .i64 t3) := (blk_cell BKg10.out 2).trans rfl
  have hz57 : w53.cell? ⟨g10, 3, none⟩ = some (.string t4) := (blk_cell BKg10.out 3).trans rfl
  have hz58 : w53.cell? ⟨g10, 4, none⟩ = some (.slice A9 t5.length cp9) := (blk_cell BKg10.out 4).trans rfl
  have hf59 := blk_frozen BKg10.out 0
  have hf60 := blk_frozen BKg10.out 1
  have hf61 := blk_frozen BKg10.out 2
  have hf62 := blk_frozen BKg10.out 3
  have hf63 := blk_frozen BKg10.out 4
  have hz64 : w53.cell? ⟨g52, 0, none⟩ = some (.int .i64 0) := (blk_cell BKg52.out 0).trans rfl
  have hz65 : w53.cell? ⟨g52, 1, none⟩ = some (.bool false) := (blk_cell BKg52.out 1).trans rfl
  have hz66 : w53.cell? ⟨g52, 2, none⟩ = some (.int .i64 0) := (blk_cell BKg52.out 2).trans rfl
  have hz67 : w53.cell? ⟨g52, 3, none⟩ = some (.string (⟨#[]⟩ : ByteArray)) := (blk_cell BKg52.out 3).trans rfl
  have hz68 : w53.cell? ⟨g52, 4, none⟩ = some (.slice none 0 0) := (blk_cell BKg52.out 4).trans rfl
  have hf69 := blk_frozen BKg52.out 0
  have hf70 := blk_frozen BKg52.out 1
  have hf71 := blk_frozen BKg52.out 2
  have hf72 := blk_frozen BKg52.out 3
  have hf73 := blk_frozen BKg52.out 4
  go_wp2_with (((with_reducible refine gate_store (t := 28) (p := 3) rfl ?_); (try (refine gate_guard (by rfl) ?_; dsimp only)); refine MW.ev_store #[.int .i64 t33, .bool t34, .int .i64 t35, .string t36, .slice A41 t37.length cp41] rfl rfl rfl rfl (cs := #[.int .i64 0, .bool false, .int .i64 0, .string (⟨#[]⟩ : ByteArray), .slice none 0 0]) (ty := 28) BKg52.out [.int .i64 t33, .bool t34, .int .i64 t35, .string t36, .slice A41 t37.length cp41] rfl (by kernel_rfl) (by simp) (by simp [Value.oneCell']) rfl ?_; intro w74 hbk hg); replace hbk := Aside0.mk hbk; refine stop_ ?_)
  refine Stop.go ?_
  replace hbk := hbk.out
  replace HF9 := Aside0.mk (Kd.F_grown (ok := (fun k_ => (w.heap.size ≤ k_) ∧ k_ ≠ g10 ∧ k_ ≠ g52)) HF9.out hg (fun k_ hk_ he_ => hk_.2.2 (Option.some.inj he_)))
  replace HF41 := Aside0.mk (Kd.F_grown (ok := (fun k_ => (w.heap.size ≤ k_) ∧ k_ ≠ g10 ∧ k_ ≠ g52)) HF41.out hg (fun k_ hk_ he_ => hk_.2.2 (Option.some.inj he_)))
  replace BKg10 := Aside0.mk (blk_grown (o := .cells #[.int .i64 t1, .bool t2, .int .i64 t3, .string t4, .slice A9 t5.length cp9] 28 (0, 0)) BKg10.out hg (fun he_ => NEg10_g52.out (Option.some.inj he_)))
  replace HB := Aside0.mk (Below.grown HB.out hg (below_size HB.out) (fun k_ hk_ => by injection hk_ with hk_; rw [← hk_]; exact GEg52.out))
  replace BKg52 := Aside0.mk hbk
  clear hg hbk
  clear hz54 hz55 hz56 hz57 hz58 hf59 hf60 hf61 hf62 hf63 hz64 hz65 hz66 hz67 hz68 hf69 hf70 hf71 hf72 hf73
  have hz75 : w74.cell? ⟨g10, 0, none⟩ = some (.int .i64 t1) := (blk_cell BKg10.out 0).trans rfl
  have hz76 : w74.cell? ⟨g10, 1, none⟩ = some (.bool t2) := (blk_cell BKg10.out 1).trans rfl
  have hz77 : w74.cell? ⟨g10, 2, none⟩ = some (.int .i64 t3) := (blk_cell BKg10.out 2).trans rfl
  have hz78 : w74.cell? ⟨g10, 3, none⟩ = some (.string t4) := (blk_cell BKg10.out 3).trans rfl
  have hz79 : w74.cell? ⟨g10, 4, none⟩ = some (.slice A9 t5.length cp9) := (blk_cell BKg10.out 4).trans rfl
  have hf80 := blk_frozen BKg10.out 0
  have hf81 := blk_frozen BKg10.out 1
  have hf82 := blk_frozen BKg10.out 2
  have hf83 := blk_frozen BKg10.out 3
  have hf84 := blk_frozen BKg10.out 4
  have hz85 : w74.cell? ⟨g52, 0, none⟩ = some (.int .i64 t33) := (blk_cell BKg52.out 0).trans rfl
  have hz86 : w74.cell? ⟨g52, 1, none⟩ = some (.bool t34) := (blk_cell BKg52.out 1).trans rfl
  have hz87 : w74.cell? ⟨g52, 2, none⟩ = some (.int .i64 t35) := (blk_cell BKg52.out 2).trans rfl
  have hz88 : w74.cell? ⟨g52, 3, none⟩ = some (.string t36) := (blk_cell BKg52.out 3).trans rfl
  have hz89 : w74.cell? ⟨g52, 4, none⟩ = some (.slice A41 t37.length cp41) := (blk_cell BKg52.out 4).trans rfl
  have hf90 := blk_frozen BKg52.out 0
  have hf91 := blk_frozen BKg52.out 1
  have hf92 := blk_frozen BKg52.out 2
  have hf93 := blk_frozen BKg52.out 3
  have hf94 := blk_frozen BKg52.out 4
  go_wp2_with (((with_reducible refine gate_dst (N := 22) rfl ?_); (try (refine gate_guard (by rfl) ?_; dsimp only)); refine Kd.N_lit k28 w.heap.size 28 rfl (N' := 22) rfl (xs := [(⟨t1, t2, t3, t4, t5⟩ : S28), (⟨t33, t34, t35, t36, t37⟩ : S28)]) (inner := [.int .i64 t1, .bool t2, .int .i64 t3, .string t4, .slice A9 t5.length cp9, .int .i64 t33, .bool t34, .int .i64 t35, .string t36, .slice A41 t37.length cp41]) (ok := (fun k_ => (w.heap.size ≤ k_) ∧ k_ ≠ g10 ∧ k_ ≠ g52)) (okp := (fun k_ => (w.heap.size ≤ k_) ∧ k_ ≠ g10 ∧ k_ ≠ g52)) ?hr ?hp (fun _ hk_ => hk_) ?hf HB.out (below_size HB.out) (by first | simp | decide) ?_; (case hr => first | (go_simp; done) | (go_simp; rfl)); (case hp => exact (Reps.c5 (k28_mkF _ _ (⟨t1, t2, t3, t4, t5⟩ : S28) HL9.out (Kd.F_mono (ok := (fun k_ => (w.heap.size ≤ k_) ∧ k_ ≠ g10 ∧ k_ ≠ g52)) HF9.out (fun k_ hk_ => ⟨hk_.1, hk_.2.1, hk_.2.2⟩))) (Reps.c5 (k28_mkF _ _ (⟨t33, t34, t35, t36, t37⟩ : S28) HL41.out (Kd.F_mono (ok := (fun k_ => (w.heap.size ≤ k_) ∧ k_ ≠ g10 ∧ k_ ≠ g52)) HF41.out (fun k_ hk_ => ⟨hk_.1, hk_.2.1, hk_.2.2⟩))) (Reps.none _ _)))); (case hf => exact (show ∀ k_, w74.heap.size ≤ k_ → (fun k_ => (w.heap.size ≤ k_) ∧ k_ ≠ g10 ∧ k_ ≠ g52) k_ from fun k_ h_ => ⟨(Nat.le_trans (below_size HB.out) h_), Kd.freshB (o := .cells #[.int .i64 t1, .bool t2, .int .i64 t3, .string t4, .slice A9 t5.length cp9] 28 (0, 0)) BKg10.out k_ h_, Kd.freshB (o := .cells #[.int .i64 t33, .bool t34, .int .i64 t35, .string t36, .slice A41 t37.length cp41] 28 (0, 0)) BKg52.out k_ h_⟩) _ (Nat.le_refl _)); intro v95 w96 hn1 hb1 hg1 hat1); replace hat1 := Aside0.mk hat1; refine stop_ ?_)
  refine Stop.go ?_
  replace hat1 := hat1.out
  have hbe := MW.grown_below hg1
  have hba := MW.base_of hat1
  replace HF9 := Aside0.mk (Kd.F_mono (Kd.F_elder' (ok := (fun k_ => (w.heap.size ≤ k_) ∧ k_ ≠ g10 ∧ k_ ≠ g52)) HF9.out hba hbe) (fun k_ hk_ => ⟨hk_.1.1, hk_.1.2.1, hk_.1.2.2, hk_.2⟩) : Kd.F k28 _ (fun k_ => (w.heap.size ≤ k_) ∧ k_ ≠ g10 ∧ k_ ≠ g52 ∧ some k_ ≠ (v95 : Value).ownBlock) _ _ _)
  replace HF41 := Aside0.mk (Kd.F_mono (Kd.F_elder' (ok := (fun k_ => (w.heap.size ≤ k_) ∧ k_ ≠ g10 ∧ k_ ≠ g52)) HF41.out hba hbe) (fun k_ hk_ => ⟨hk_.1.1, hk_.1.2.1, hk_.1.2.2, hk_.2⟩) : Kd.F k28 _ (fun k_ => (w.heap.size ≤ k_) ∧ k_ ≠ g10 ∧ k_ ≠ g52 ∧ some k_ ≠ (v95 : Value).ownBlock) _ _ _)
  replace BKg10 := Aside0.mk (blk_below (o := .cells #[.int .i64 t1, .bool t2, .int .i64 t3, .string t4, .slice A9 t5.length cp9] 28 (0, 0)) BKg10.out hbe)
  replace BKg52 := Aside0.mk (blk_below (o := .cells #[.int .i64 t33, .bool t34, .int .i64 t35, .string t36, .slice A41 t37.length cp41] 28 (0, 0)) BKg52.out hbe)
  replace HB := Aside0.mk hb1
  have HN97 := Aside0.mk hn1
  clear hn1 hb1 hg1 hat1 hbe hba
  clear hz75 hz76 hz77 hz78 hz79 hf80 hf81 hf82 hf83 hf84 hz85 hz86 hz87 hz88 hz89 hf90 hf91 hf92 hf93 hf94
  have hz98 : w96.cell? ⟨g10, 0, none⟩ = some (.int .i64 t1) := (blk_cell BKg10.out 0).trans rfl
  have hz99 : w96.cell? ⟨g10, 1, none⟩ = some (.bool t2) := (blk_cell BKg10.out 1).trans rfl
  have hz100 : w96.cell? ⟨g10, 2, none⟩ = some (.int .i64 t3) := (blk_cell BKg10.out 2).trans rfl
  have hz101 : w96.cell? ⟨g10, 3, none⟩ = some (.string t4) := (blk_cell BKg10.out 3).trans rfl
  have hz102 : w96.cell? ⟨g10, 4, none⟩ = some (.slice A9 t5.length cp9) := (blk_cell BKg10.out 4).trans rfl
  have hf103 := blk_frozen BKg10.out 0
  have hf104 := blk_frozen BKg10.out 1
  have hf105 := blk_frozen BKg10.out 2
  have hf106 := blk_frozen BKg10.out 3
  have hf107 := blk_frozen BKg10.out 4
  have hz108 : w96.cell? ⟨g52, 0, none⟩ = some (.int .i64 t33) := (blk_cell BKg52.out 0).trans rfl
  have hz109 : w96.cell? ⟨g52, 1, none⟩ = some (.bool t34) := (blk_cell BKg52.out 1).trans rfl
  have hz110 : w96.cell? ⟨g52, 2, none⟩ = some (.int .i64 t35) := (blk_cell BKg52.out 2).trans rfl
  have hz111 : w96.cell? ⟨g52, 3, none⟩ = some (.string t36) := (blk_cell BKg52.out 3).trans rfl
  have hz112 : w96.cell? ⟨g52, 4, none⟩ = some (.slice A41 t37.length cp41) := (blk_cell BKg52.out 4).trans rfl
  have hf113 := blk_frozen BKg52.out 0
  have hf114 := blk_frozen BKg52.out 1
  have hf115 := blk_frozen BKg52.out 2
  have hf116 := blk_frozen BKg52.out 3
  have hf117 := blk_frozen BKg52.out 4
  obtain ⟨A118, cp119, he_⟩ := Kd.N_slice HN97.out
  subst he_
  have HL121 := Aside0.mk (Kd.N_reads' HN97.out).2.1
  have HF120 := Aside0.mk (Kd.N_F HN97.out)
  clear HN97
  replace HF9 := Aside0.mk (Kd.F_mono (ok := (fun k_ => (w.heap.size ≤ k_) ∧ k_ ≠ g10 ∧ k_ ≠ g52 ∧ some k_ ≠ ((.slice A118 [(⟨t1, t2, t3, t4, t5⟩ : S28), (⟨t33, t34, t35, t36, t37⟩ : S28)].length cp119) : Value).ownBlock)) HF9.out (fun k_ hk_ => ⟨hk_.1, hk_.2.1, hk_.2.2.1⟩) : Kd.F k28 _ (fun k_ => (w.heap.size ≤ k_) ∧ k_ ≠ g10 ∧ k_ ≠ g52) _ _ _)
  replace HF41 := Aside0.mk (Kd.F_mono (ok := (fun k_ => (w.heap.size ≤ k_) ∧ k_ ≠ g10 ∧ k_ ≠ g52 ∧ some k_ ≠ ((.slice A118 [(⟨t1, t2, t3, t4, t5⟩ : S28), (⟨t33, t34, t35, t36, t37⟩ : S28)].length cp119) : Value).ownBlock)) HF41.out (fun k_ hk_ => ⟨hk_.1, hk_.2.1, hk_.2.2.1⟩) : Kd.F k28 _ (fun k_ => (w.heap.size ≤ k_) ∧ k_ ≠ g10 ∧ k_ ≠ g52) _ _ _)
  have H := HH.out
  replace H := Option.bind_eq_some_iff.mp H
  obtain ⟨⟨t122, t123, t124, t125, t126, t127⟩, at_, H⟩ := H
  have At128 := Aside0.mk at_
  clear at_
  replace HH := Aside0.mk (show ((prims_AsInt.f k 0 false 0 (⟨#[255, 127]⟩ : ByteArray) ([] : List (S28))).bind fun bt214 => ((prims_AsInt.f k 0 false 0 (⟨#[0, 5]⟩ : ByteArray) ([] : List (S28))).bind fun bt248 => (if t4.toList = ([0, 128] : List UInt8) then (if t6 = 0 then (if t36.toList = ([255] : List UInt8) then (if t38 = 0 then (if t123 = true then (if (t126.length : Int) = 2 then (if t127 = 0 then (if bt214.1 = (-129) then (if bt214.2 = 0 then (if bt248.2 = 160 then ((prims_Is.f t122 true t124 t125 t126 0 16 true).bind fun t310 => (some t310)) else (some false)) else (some false)) else (some false)) else (some false)) else (some false)) else (some false)) else (some false)) else (some false)) else (some false)) else (some false)))) = some r from H)
  clear H
  go_wp2_with (((with_reducible refine gate_callee (f := 10) rfl ?_); (try (refine gate_guard (by rfl) ?_; dsimp only)); refine goesL_ (some 23) rfl rfl Try.func10 (by kernel_rfl) rfl #[.int .i64 0, .int .i64 16, .slice A118 [(⟨t1, t2, t3, t4, t5⟩ : S28), (⟨t33, t34, t35, t36, t37⟩ : S28)].length cp119] rfl (by (try simp only [List.map_toArray, List.map_cons, List.map_nil]); first | done | rfl | (simp only [List.length_drop, List.length_take]; rfl)) ?_; (with_reducible refine (prims_Group.calls (fun k_ => (w.heap.size ≤ k_) ∧ k_ ≠ g10 ∧ k_ ≠ g52) 0 16 _ _ [(⟨t1, t2, t3, t4, t5⟩ : S28), (⟨t33, t34, t35, t36, t37⟩ : S28)] t122 t123 t124 t125 t126 t127 _ (Kd.F_mono (ok := (fun k_ => (w.heap.size ≤ k_) ∧ k_ ≠ g10 ∧ k_ ≠ g52)) HF120.out (fun k_ hk_ => ⟨hk_.1, hk_.2.1, hk_.2.2⟩)) HL121.out At128.out).mono ?_); rintro e w129 ⟨A130, cp130, rfl, hl130, hn130, hb⟩; refine ⟨_, rfl, ?_⟩); refine stop_ ?_)
  refine Stop.go ?_
  have HL130 := Aside0.mk hl130
  have HF130 := Aside0.mk (Kd.F_mono hn130 (fun k_ hk_ => hk_.elim (fun h_ => h_) (fun h_ => ⟨(Nat.le_trans (below_size HB.out) h_), Kd.freshB (o := .cells #[.int .i64 t1, .bool t2, .int .i64 t3, .string t4, .slice A9 t5.length cp9] 28 (0, 0)) BKg10.out k_ h_, Kd.freshB (o := .cells #[.int .i64 t33, .bool t34, .int .i64 t35, .string t36, .slice A41 t37.length cp41] 28 (0, 0)) BKg52.out k_ h_⟩)) : Kd.F k28 _ (fun k_ => (w.heap.size ≤ k_) ∧ k_ ≠ g10 ∧ k_ ≠ g52) _ _ _)
  clear hn130 hl130
  replace HF9 := Aside0.mk (Kd.F_below HF9.out hb)
  replace HF41 := Aside0.mk (Kd.F_below HF41.out hb)
  replace HF120 := Aside0.mk (Kd.F_below HF120.out hb)
  replace BKg10 := Aside0.mk (blk_below (o := .cells #[.int .i64 t1, .bool t2, .int .i64 t3, .string t4, .slice A9 t5.length cp9] 28 (0, 0)) BKg10.out hb)
  replace BKg52 := Aside0.mk (blk_below (o := .cells #[.int .i64 t33, .bool t34, .int .i64 t35, .string t36, .slice A41 t37.length cp41] 28 (0, 0)) BKg52.out hb)
  replace HB := Aside0.mk (below_step HB.out hb)
  clear hb
  clear hz98 hz99 hz100 hz101 hz102 hf103 hf104 hf105 hf106 hf107 hz108 hz109 hz110 hz111 hz112 hf113 hf114 hf115 hf116 hf117
  have hz131 : w129.cell? ⟨g10, 0, none⟩ = some (.int .i64 t1) := (blk_cell BKg10.out 0).trans rfl
  have hz132 : w129.cell? ⟨g10, 1, none⟩ = some (.bool t2) := (blk_cell BKg10.out 1).trans rfl
  have hz133 : w129.cell? ⟨g10, 2, none⟩ = some (.int .i64 t3) := (blk_cell BKg10.out 2).trans rfl
  have hz134 : w129.cell? ⟨g10, 3, none⟩ = some (.string t4) := (blk_cell BKg10.out 3).trans rfl
  have hz135 : w129.cell? ⟨g10, 4, none⟩ = some (.slice A9 t5.length cp9) := (blk_cell BKg10.out 4).trans rfl
  have hf136 := blk_frozen BKg10.out 0
  have hf137 := blk_frozen BKg10.out 1
  have hf138 := blk_frozen BKg10.out 2
  have hf139 := blk_frozen BKg10.out 3
  have hf140 := blk_frozen BKg10.out 4
  have hz141 : w129.cell? ⟨g52, 0, none⟩ = some (.int .i64 t33) := (blk_cell BKg52.out 0).trans rfl
  have hz142 : w129.cell? ⟨g52, 1, none⟩ = some (.bool t34) := (blk_cell BKg52.out 1).trans rfl
  have hz143 : w129.cell? ⟨g52, 2, none⟩ = some (.int .i64 t35) := (blk_cell BKg52.out 2).trans rfl
  have hz144 : w129.cell? ⟨g52, 3, none⟩ = some (.string t36) := (blk_cell BKg52.out 3).trans rfl
  have hz145 : w129.cell? ⟨g52, 4, none⟩ = some (.slice A41 t37.length cp41) := (blk_cell BKg52.out 4).trans rfl
  have hf146 := blk_frozen BKg52.out 0
  have hf147 := blk_frozen BKg52.out 1
  have hf148 := blk_frozen BKg52.out 2
  have hf149 := blk_frozen BKg52.out 3
  have hf150 := blk_frozen BKg52.out 4
  go_wp2_with (((with_reducible refine gate_dst (N := 5) rfl ?_); (try (refine gate_guard (by rfl) ?_; dsimp only)); refine box_event ?hg (N := 5) ?hd (cs := #[.int .i64 0, .bool false, .int .i64 0, .string (⟨#[]⟩ : ByteArray), .slice none 0 0]) (t := 28) ?hr ?_; (case hd => rfl); (case hg => rfl); (case hr => first | (go_simp; done) | (go_simp; rfl)); intro g151 hg w152 hbox hb); replace hg := Aside0.mk hg; replace hbox := Aside0.mk hbox; refine stop_ ?_)
  refine Stop.go ?_
  replace hg := hg.out
  replace hbox := hbox.out
  have GEg151 := Aside0.mk (by rw [hg]; exact (below_size HB.out) : w.heap.size ≤ g151)
  replace HF9 := Aside0.mk (Kd.F_elderB HF9.out g151 (Nat.le_of_eq hg.symm))
  replace HF9 := Aside0.mk (Kd.F_mono HF9.out (fun k_ hk_ => ⟨hk_.1.1, hk_.1.2.1, hk_.1.2.2, hk_.2⟩) : Kd.F k28 _ (fun k_ => (w.heap.size ≤ k_) ∧ k_ ≠ g10 ∧ k_ ≠ g52 ∧ k_ ≠ g151) _ _ _)
  replace HF41 := Aside0.mk (Kd.F_elderB HF41.out g151 (Nat.le_of_eq hg.symm))
  replace HF41 := Aside0.mk (Kd.F_mono HF41.out (fun k_ hk_ => ⟨hk_.1.1, hk_.1.2.1, hk_.1.2.2, hk_.2⟩) : Kd.F k28 _ (fun k_ => (w.heap.size ≤ k_) ∧ k_ ≠ g10 ∧ k_ ≠ g52 ∧ k_ ≠ g151) _ _ _)
  replace HF120 := Aside0.mk (Kd.F_elderB HF120.out g151 (Nat.le_of_eq hg.symm))
  replace HF120 := Aside0.mk (Kd.F_mono HF120.out (fun k_ hk_ => ⟨hk_.1.1, hk_.1.2.1, hk_.1.2.2, hk_.2⟩) : Kd.F k28 _ (fun k_ => (w.heap.size ≤ k_) ∧ k_ ≠ g10 ∧ k_ ≠ g52 ∧ k_ ≠ g151) _ _ _)
  replace HF130 := Aside0.mk (Kd.F_elderB HF130.out g151 (Nat.le_of_eq hg.symm))
  replace HF130 := Aside0.mk (Kd.F_mono HF130.out (fun k_ hk_ => ⟨hk_.1.1, hk_.1.2.1, hk_.1.2.2, hk_.2⟩) : Kd.F k28 _ (fun k_ => (w.heap.size ≤ k_) ∧ k_ ≠ g10 ∧ k_ ≠ g52 ∧ k_ ≠ g151) _ _ _)
  have NEg10_g151 := Aside0.mk (by rw [hg]; exact Nat.ne_of_lt (blk_lt (o := .cells #[.int .i64 t1, .bool t2, .int .i64 t3, .string t4, .slice A9 t5.length cp9] 28 (0, 0)) BKg10.out) : g10 ≠ g151)
  have NEg151_g10 := Aside0.mk (Ne.symm NEg10_g151.out)
  have NEg52_g151 := Aside0.mk (by rw [hg]; exact Nat.ne_of_lt (blk_lt (o := .cells #[.int .i64 t33, .bool t34, .int .i64 t35, .string t36, .slice A41 t37.length cp41] 28 (0, 0)) BKg52.out) : g52 ≠ g151)
  have NEg151_g52 := Aside0.mk (Ne.symm NEg52_g151.out)
  replace HF9 := Aside0.mk (Kd.F_below HF9.out hb)
  replace HF41 := Aside0.mk (Kd.F_below HF41.out hb)
  replace HF120 := Aside0.mk (Kd.F_below HF120.out hb)
  replace HF130 := Aside0.mk (Kd.F_below HF130.out hb)
  replace BKg10 := Aside0.mk (blk_below (o := .cells #[.int .i64 t1, .bool t2, .int .i64 t3, .string t4, .slice A9 t5.length cp9] 28 (0, 0)) BKg10.out hb)
  replace BKg52 := Aside0.mk (blk_below (o := .cells #[.int .i64 t33, .bool t34, .int .i64 t35, .string t36, .slice A41 t37.length cp41] 28 (0, 0)) BKg52.out hb)
  replace HB := Aside0.mk (below_step HB.out hb)
  have BKg151 := Aside0.mk hbox
  clear hg hbox hb
  clear hz131 hz132 hz133 hz134 hz135 hf136 hf137 hf138 hf139 hf140 hz141 hz142 hz143 hz144 hz145 hf146 hf147 hf148 hf149 hf150
  have hz153 : w152.cell? ⟨g10, 0, none⟩ = some (.int .i64 t1) := (blk_cell BKg10.out 0).trans rfl
  have hz154 : w152.cell? ⟨g10, 1, none⟩ = some (.bool t2) := (blk_cell BKg10.out 1).trans rfl
  have hz155 : w152.cell? ⟨g10, 2, none⟩ = some (.int .i64 t3) := (blk_cell BKg10.out 2).trans rfl
  have hz156 : w152.cell? ⟨g10, 3, none⟩ = some (.string t4) := (blk_cell BKg10.out 3).trans rfl
  have hz157 : w152.cell? ⟨g10, 4, none⟩ = some (.slice A9 t5.length cp9) := (blk_cell BKg10.out 4).trans rfl
  have hf158 := blk_frozen BKg10.out 0
  have hf159 := blk_frozen BKg10.out 1
  have hf160 := blk_frozen BKg10.out 2
  have hf161 := blk_frozen BKg10.out 3
  have hf162 := blk_frozen BKg10.out 4
  have hz163 : w152.cell? ⟨g52, 0, none⟩ = some (.int .i64 t33) := (blk_cell BKg52.out 0).trans rfl
  have hz164 : w152.cell? ⟨g52, 1, none⟩ = some (.bool t34) := (blk_cell BKg52.out 1).trans rfl
  have hz165 : w152.cell? ⟨g52, 2, none⟩ = some (.int .i64 t35) := (blk_cell BKg52.out 2).trans rfl
  have hz166 : w152.cell? ⟨g52, 3, none⟩ = some (.string t36) := (blk_cell BKg52.out 3).trans rfl
  have hz167 : w152.cell? ⟨g52, 4, none⟩ = some (.slice A41 t37.length cp41) := (blk_cell BKg52.out 4).trans rfl
  have hf168 := blk_frozen BKg52.out 0
  have hf169 := blk_frozen BKg52.out 1
  have hf170 := blk_frozen BKg52.out 2
  have hf171 := blk_frozen BKg52.out 3
  have hf172 := blk_frozen BKg52.out 4
  have hz173 : w152.cell? ⟨g151, 0, none⟩ = some (.int .i64 0) := (blk_cell BKg151.out 0).trans rfl
  have hz174 : w152.cell? ⟨g151, 1, none⟩ = some (.bool false) := (blk_cell BKg151.out 1).trans rfl
  have hz175 : w152.cell? ⟨g151, 2, none⟩ = some (.int .i64 0) := (blk_cell BKg151.out 2).trans rfl
  have hz176 : w152.cell? ⟨g151, 3, none⟩ = some (.string (⟨#[]⟩ : ByteArray)) := (blk_cell BKg151.out 3).trans rfl
  have hz177 : w152.cell? ⟨g151, 4, none⟩ = some (.slice none 0 0) := (blk_cell BKg151.out 4).trans rfl
  have hf178 := blk_frozen BKg151.out 0
  have hf179 := blk_frozen BKg151.out 1
  have hf180 := blk_frozen BKg151.out 2
  have hf181 := blk_frozen BKg151.out 3
  have hf182 := blk_frozen BKg151.out 4
  go_wp2_with (((with_reducible refine gate_store (t := 28) (p := 5) rfl ?_); (try (refine gate_guard (by rfl) ?_; dsimp only)); refine MW.ev_store #[.int .i64 t122, .bool t123, .int .i64 t124, .string t125, .slice A130 t126.length cp130] rfl rfl rfl rfl (cs := #[.int .i64 0, .bool false, .int .i64 0, .string (⟨#[]⟩ : ByteArray), .slice none 0 0]) (ty := 28) BKg151.out [.int .i64 t122, .bool t123, .int .i64 t124, .string t125, .slice A130 t126.length cp130] rfl (by kernel_rfl) (by simp) (by simp [Value.oneCell']) rfl ?_; intro w183 hbk hg); replace hbk := Aside0.mk hbk; refine stop_ ?_)
  refine Stop.go ?_
  replace hbk := hbk.out
  replace HF9 := Aside0.mk (Kd.F_grown (ok := (fun k_ => (w.heap.size ≤ k_) ∧ k_ ≠ g10 ∧ k_ ≠ g52 ∧ k_ ≠ g151)) HF9.out hg (fun k_ hk_ he_ => hk_.2.2.2 (Option.some.inj he_)))
  replace HF41 := Aside0.mk (Kd.F_grown (ok := (fun k_ => (w.heap.size ≤ k_) ∧ k_ ≠ g10 ∧ k_ ≠ g52 ∧ k_ ≠ g151)) HF41.out hg (fun k_ hk_ he_ => hk_.2.2.2 (Option.some.inj he_)))
  replace HF120 := Aside0.mk (Kd.F_grown (ok := (fun k_ => (w.heap.size ≤ k_) ∧ k_ ≠ g10 ∧ k_ ≠ g52 ∧ k_ ≠ g151)) HF120.out hg (fun k_ hk_ he_ => hk_.2.2.2 (Option.some.inj he_)))
  replace HF130 := Aside0.mk (Kd.F_grown (ok := (fun k_ => (w.heap.size ≤ k_) ∧ k_ ≠ g10 ∧ k_ ≠ g52 ∧ k_ ≠ g151)) HF130.out hg (fun k_ hk_ he_ => hk_.2.2.2 (Option.some.inj he_)))
  replace BKg10 := Aside0.mk (blk_grown (o := .cells #[.int .i64 t1, .bool t2, .int .i64 t3, .string t4, .slice A9 t5.length cp9] 28 (0, 0)) BKg10.out hg (fun he_ => NEg10_g151.out (Option.some.inj he_)))
  replace BKg52 := Aside0.mk (blk_grown (o := .cells #[.int .i64 t33, .bool t34, .int .i64 t35, .string t36, .slice A41 t37.length cp41] 28 (0, 0)) BKg52.out hg (fun he_ => NEg52_g151.out (Option.some.inj he_)))
  replace HB := Aside0.mk (Below.grown HB.out hg (below_size HB.out) (fun k_ hk_ => by injection hk_ with hk_; rw [← hk_]; exact GEg151.out))
  replace BKg151 := Aside0.mk hbk
  clear hg hbk
  clear hz153 hz154 hz155 hz156 hz157 hf158 hf159 hf160 hf161 hf162 hz163 hz164 hz165 hz166 hz167 hf168 hf169 hf170 hf171 hf172 hz173 hz174 hz175 hz176 hz177 hf178 hf179 hf180 hf181 hf182
  have hz184 : w183.cell? ⟨g10, 0, none⟩ = some (.int .i64 t1) := (blk_cell BKg10.out 0).trans rfl
  have hz185 : w183.cell? ⟨g10, 1, none⟩ = some (.bool t2) := (blk_cell BKg10.out 1).trans rfl
  have hz186 : w183.cell? ⟨g10, 2, none⟩ = some (.int .i64 t3) := (blk_cell BKg10.out 2).trans rfl
  have hz187 : w183.cell? ⟨g10, 3, none⟩ = some (.string t4) := (blk_cell BKg10.out 3).trans rfl
  have hz188 : w183.cell? ⟨g10, 4, none⟩ = some (.slice A9 t5.length cp9) := (blk_cell BKg10.out 4).trans rfl
  have hf189 := blk_frozen BKg10.out 0
  have hf190 := blk_frozen BKg10.out 1
  have hf191 := blk_frozen BKg10.out 2
  have hf192 := blk_frozen BKg10.out 3
  have hf193 := blk_frozen BKg10.out 4
  have hz194 : w183.cell? ⟨g52, 0, none⟩ = some (.int .i64 t33) := (blk_cell BKg52.out 0).trans rfl
  have hz195 : w183.cell? ⟨g52, 1, none⟩ = some (.bool t34) := (blk_cell BKg52.out 1).trans rfl
  have hz196 : w183.cell? ⟨g52, 2, none⟩ = some (.int .i64 t35) := (blk_cell BKg52.out 2).trans rfl
  have hz197 : w183.cell? ⟨g52, 3, none⟩ = some (.string t36) := (blk_cell BKg52.out 3).trans rfl
  have hz198 : w183.cell? ⟨g52, 4, none⟩ = some (.slice A41 t37.length cp41) := (blk_cell BKg52.out 4).trans rfl
  have hf199 := blk_frozen BKg52.out 0
  have hf200 := blk_frozen BKg52.out 1
  have hf201 := blk_frozen BKg52.out 2
  have hf202 := blk_frozen BKg52.out 3
  have hf203 := blk_frozen BKg52.out 4
  have hz204 : w183.cell? ⟨g151, 0, none⟩ = some (.int .i64 t122) := (blk_cell BKg151.out 0).trans rfl
  have hz205 : w183.cell? ⟨g151, 1, none⟩ = some (.bool t123) := (blk_cell BKg151.out 1).trans rfl
  have hz206 : w183.cell? ⟨g151, 2, none⟩ = some (.int .i64 t124) := (blk_cell BKg151.out 2).trans rfl
  have hz207 : w183.cell? ⟨g151, 3, none⟩ = some (.string t125) := (blk_cell BKg151.out 3).trans rfl
  have hz208 : w183.cell? ⟨g151, 4, none⟩ = some (.slice A130 t126.length cp130) := (blk_cell BKg151.out 4).trans rfl
  have hf209 := blk_frozen BKg151.out 0
  have hf210 := blk_frozen BKg151.out 1
  have hf211 := blk_frozen BKg151.out 2
  have hf212 := blk_frozen BKg151.out 3
  have hf213 := blk_frozen BKg151.out 4
  have H := HH.out
  replace H := Option.bind_eq_some_iff.mp H
  obtain ⟨⟨t214, t215⟩, at_, H⟩ := H
  have At216 := Aside0.mk at_
  clear at_
  replace HH := Aside0.mk (show ((prims_AsInt.f k 0 false 0 (⟨#[0, 5]⟩ : ByteArray) ([] : List (S28))).bind fun bt248 => (if t4.toList = ([0, 128] : List UInt8) then (if t6 = 0 then (if t36.toList = ([255] : List UInt8) then (if t38 = 0 then (if t123 = true then (if (t126.length : Int) = 2 then (if t127 = 0 then (if t214 = (-129) then (if t215 = 0 then (if bt248.2 = 160 then ((prims_Is.f t122 true t124 t125 t126 0 16 true).bind fun t310 => (some t310)) else (some false)) else (some false)) else (some false)) else (some false)) else (some false)) else (some false)) else (some false)) else (some false)) else (some false)) else (some false))) = some r from H)
  clear H
  go_wp2_with (((with_reducible refine gate_callee (f := 14) rfl ?_); (try (refine gate_guard (by rfl) ?_; dsimp only)); refine goesL_ (some 28) rfl rfl Try.func14 (by kernel_rfl) rfl #[.agg #[.int .i64 0, .bool false, .int .i64 0, .string (⟨#[255, 127]⟩ : ByteArray), .slice none 0 0]] rfl (by (try simp only [List.map_toArray, List.map_cons, List.map_nil]); first | done | rfl | (simp only [List.length_drop, List.length_take]; rfl)) ?_; (refine (prims_AsInt.calls k (fun k_ => (w.heap.size ≤ k_) ∧ k_ ≠ g10 ∧ k_ ≠ g52 ∧ k_ ≠ g151) 0 false 0 (⟨#[255, 127]⟩ : ByteArray) _ _ ([] : List (S28)) t214 t215 _ (Kd.F_nil _ _ _) (Nat.le_refl _) At216.out).mono ?_); rintro e w217 ⟨rfl, hb⟩; refine ⟨_, rfl, ?_⟩); refine stop_ ?_)
  refine Stop.go ?_
  replace HF9 := Aside0.mk (Kd.F_below HF9.out hb)
  replace HF41 := Aside0.mk (Kd.F_below HF41.out hb)
  replace HF120 := Aside0.mk (Kd.F_below HF120.out hb)
  replace HF130 := Aside0.mk (Kd.F_below HF130.out hb)
  replace BKg10 := Aside0.mk (blk_below (o := .cells #[.int .i64 t1, .bool t2, .int .i64 t3, .string t4, .slice A9 t5.length cp9] 28 (0, 0)) BKg10.out hb)
  replace BKg52 := Aside0.mk (blk_below (o := .cells #[.int .i64 t33, .bool t34, .int .i64 t35, .string t36, .slice A41 t37.length cp41] 28 (0, 0)) BKg52.out hb)
  replace BKg151 := Aside0.mk (blk_below (o := .cells #[.int .i64 t122, .bool t123, .int .i64 t124, .string t125, .slice A130 t126.length cp130] 28 (0, 0)) BKg151.out hb)
  replace HB := Aside0.mk (below_step HB.out hb)
  clear hb
  clear hz184 hz185 hz186 hz187 hz188 hf189 hf190 hf191 hf192 hf193 hz194 hz195 hz196 hz197 hz198 hf199 hf200 hf201 hf202 hf203 hz204 hz205 hz206 hz207 hz208 hf209 hf210 hf211 hf212 hf213
  have hz218 : w217.cell? ⟨g10, 0, none⟩ = some (.int .i64 t1) := (blk_cell BKg10.out 0).trans rfl
  have hz219 : w217.cell? ⟨g10, 1, none⟩ = some (.bool t2) := (blk_cell BKg10.out 1).trans rfl
  have hz220 : w217.cell? ⟨g10, 2, none⟩ = some (.int .i64 t3) := (blk_cell BKg10.out 2).trans rfl
  have hz221 : w217.cell? ⟨g10, 3, none⟩ = some (.string t4) := (blk_cell BKg10.out 3).trans rfl
  have hz222 : w217.cell? ⟨g10, 4, none⟩ = some (.slice A9 t5.length cp9) := (blk_cell BKg10.out 4).trans rfl
  have hf223 := blk_frozen BKg10.out 0
  have hf224 := blk_frozen BKg10.out 1
  have hf225 := blk_frozen BKg10.out 2
  have hf226 := blk_frozen BKg10.out 3
  have hf227 := blk_frozen BKg10.out 4
  have hz228 : w217.cell? ⟨g52, 0, none⟩ = some (.int .i64 t33) := (blk_cell BKg52.out 0).trans rfl
  have hz229 : w217.cell? ⟨g52, 1, none⟩ = some (.bool t34) := (blk_cell BKg52.out 1).trans rfl
  have hz230 : w217.cell? ⟨g52, 2, none⟩ = some (.int .i64 t35) := (blk_cell BKg52.out 2).trans rfl
  have hz231 : w217.cell? ⟨g52, 3, none⟩ = some (.string t36) := (blk_cell BKg52.out 3).trans rfl
  have hz232 : w217.cell? ⟨g52, 4, none⟩ = some (.slice A41 t37.length cp41) := (blk_cell BKg52.out 4).trans rfl
  have hf233 := blk_frozen BKg52.out 0
  have hf234 := blk_frozen BKg52.out 1
  have hf235 := blk_frozen BKg52.out 2
  have hf236 := blk_frozen BKg52.out 3
  have hf237 := blk_frozen BKg52.out 4
  have hz238 : w217.cell? ⟨g151, 0, none⟩ = some (.int .i64 t122) := (blk_cell BKg151.out 0).trans rfl
  have hz239 : w217.cell? ⟨g151, 1, none⟩ = some (.bool t123) := (blk_cell BKg151.out 1).trans rfl
  have hz240 : w217.cell? ⟨g151, 2, none⟩ = some (.int .i64 t124) := (blk_cell BKg151.out 2).trans rfl
  have hz241 : w217.cell? ⟨g151, 3, none⟩ = some (.string t125) := (blk_cell BKg151.out 3).trans rfl
  have hz242 : w217.cell? ⟨g151, 4, none⟩ = some (.slice A130 t126.length cp130) := (blk_cell BKg151.out 4).trans rfl
  have hf243 := blk_frozen BKg151.out 0
  have hf244 := blk_frozen BKg151.out 1
  have hf245 := blk_frozen BKg151.out 2
  have hf246 := blk_frozen BKg151.out 3
  have hf247 := blk_frozen BKg151.out 4
  have H := HH.out
  replace H := Option.bind_eq_some_iff.mp H
  obtain ⟨⟨t248, t249⟩, at_, H⟩ := H
  have At250 := Aside0.mk at_
  clear at_
  replace HH := Aside0.mk (show (if t4.toList = ([0, 128] : List UInt8) then (if t6 = 0 then (if t36.toList = ([255] : List UInt8) then (if t38 = 0 then (if t123 = true then (if (t126.length : Int) = 2 then (if t127 = 0 then (if t214 = (-129) then (if t215 = 0 then (if t249 = 160 then ((prims_Is.f t122 true t124 t125 t126 0 16 true).bind fun t310 => (some t310)) else (some false)) else (some false)) else (some false)) else (some false)) else (some false)) else (some false)) else (some false)) else (some false)) else (some false)) else (some false)) = some r from H)
  clear H
  go_wp2_with (((with_reducible refine gate_callee (f := 14) rfl ?_); (try (refine gate_guard (by rfl) ?_; dsimp only)); refine goesL_ (some 33) rfl rfl Try.func14 (by kernel_rfl) rfl #[.agg #[.int .i64 0, .bool false, .int .i64 0, .string (⟨#[0, 5]⟩ : ByteArray), .slice none 0 0]] rfl (by (try simp only [List.map_toArray, List.map_cons, List.map_nil]); first | done | rfl | (simp only [List.length_drop, List.length_take]; rfl)) ?_; (refine (prims_AsInt.calls k (fun k_ => (w.heap.size ≤ k_) ∧ k_ ≠ g10 ∧ k_ ≠ g52 ∧ k_ ≠ g151) 0 false 0 (⟨#[0, 5]⟩ : ByteArray) _ _ ([] : List (S28)) t248 t249 _ (Kd.F_nil _ _ _) (Nat.le_refl _) At250.out).mono ?_); rintro e w251 ⟨rfl, hb⟩; refine ⟨_, rfl, ?_⟩); refine stop_ ?_)
  refine Stop.go ?_
  replace HF9 := Aside0.mk (Kd.F_below HF9.out hb)
  replace HF41 := Aside0.mk (Kd.F_below HF41.out hb)
  replace HF120 := Aside0.mk (Kd.F_below HF120.out hb)
  replace HF130 := Aside0.mk (Kd.F_below HF130.out hb)
  replace BKg10 := Aside0.mk (blk_below (o := .cells #[.int .i64 t1, .bool t2, .int .i64 t3, .string t4, .slice A9 t5.length cp9] 28 (0, 0)) BKg10.out hb)
  replace BKg52 := Aside0.mk (blk_below (o := .cells #[.int .i64 t33, .bool t34, .int .i64 t35, .string t36, .slice A41 t37.length cp41] 28 (0, 0)) BKg52.out hb)
  replace BKg151 := Aside0.mk (blk_below (o := .cells #[.int .i64 t122, .bool t123, .int .i64 t124, .string t125, .slice A130 t126.length cp130] 28 (0, 0)) BKg151.out hb)
  replace HB := Aside0.mk (below_step HB.out hb)
  clear hb
  clear hz218 hz219 hz220 hz221 hz222 hf223 hf224 hf225 hf226 hf227 hz228 hz229 hz230 hz231 hz232 hf233 hf234 hf235 hf236 hf237 hz238 hz239 hz240 hz241 hz242 hf243 hf244 hf245 hf246 hf247
  have hz252 : w251.cell? ⟨g10, 0, none⟩ = some (.int .i64 t1) := (blk_cell BKg10.out 0).trans rfl
  have hz253 : w251.cell? ⟨g10, 1, none⟩ = some (.bool t2) := (blk_cell BKg10.out 1).trans rfl
  have hz254 : w251.cell? ⟨g10, 2, none⟩ = some (.int .i64 t3) := (blk_cell BKg10.out 2).trans rfl
  have hz255 : w251.cell? ⟨g10, 3, none⟩ = some (.string t4) := (blk_cell BKg10.out 3).trans rfl
  have hz256 : w251.cell? ⟨g10, 4, none⟩ = some (.slice A9 t5.length cp9) := (blk_cell BKg10.out 4).trans rfl
  have hf257 := blk_frozen BKg10.out 0
  have hf258 := blk_frozen BKg10.out 1
  have hf259 := blk_frozen BKg10.out 2
  have hf260 := blk_frozen BKg10.out 3
  have hf261 := blk_frozen BKg10.out 4
  have hz262 : w251.cell? ⟨g52, 0, none⟩ = some (.int .i64 t33) := (blk_cell BKg52.out 0).trans rfl
  have hz263 : w251.cell? ⟨g52, 1, none⟩ = some (.bool t34) := (blk_cell BKg52.out 1).trans rfl
  have hz264 : w251.cell? ⟨g52, 2, none⟩ = some (.int .i64 t35) := (blk_cell BKg52.out 2).trans rfl
  have hz265 : w251.cell? ⟨g52, 3, none⟩ = some (.string t36) := (blk_cell BKg52.out 3).trans rfl
  have hz266 : w251.cell? ⟨g52, 4, none⟩ = some (.slice A41 t37.length cp41) := (blk_cell BKg52.out 4).trans rfl
  have hf267 := blk_frozen BKg52.out 0
  have hf268 := blk_frozen BKg52.out 1
  have hf269 := blk_frozen BKg52.out 2
  have hf270 := blk_frozen BKg52.out 3
  have hf271 := blk_frozen BKg52.out 4
  have hz272 : w251.cell? ⟨g151, 0, none⟩ = some (.int .i64 t122) := (blk_cell BKg151.out 0).trans rfl
  have hz273 : w251.cell? ⟨g151, 1, none⟩ = some (.bool t123) := (blk_cell BKg151.out 1).trans rfl
  have hz274 : w251.cell? ⟨g151, 2, none⟩ = some (.int .i64 t124) := (blk_cell BKg151.out 2).trans rfl
  have hz275 : w251.cell? ⟨g151, 3, none⟩ = some (.string t125) := (blk_cell BKg151.out 3).trans rfl
  have hz276 : w251.cell? ⟨g151, 4, none⟩ = some (.slice A130 t126.length cp130) := (blk_cell BKg151.out 4).trans rfl
  have hf277 := blk_frozen BKg151.out 0
  have hf278 := blk_frozen BKg151.out 1
  have hf279 := blk_frozen BKg151.out 2
  have hf280 := blk_frozen BKg151.out 3
  have hf281 := blk_frozen BKg151.out 4
  by_cases c282 : t4.toList = ([0, 128] : List UInt8)
  · have H := HH.out
    rw [if_pos c282] at H
    replace HH := Aside0.mk H
    clear H
    have hk283 : (t4.toList == ([0, 128] : List UInt8)) = true := beq_iff_eq.mpr c282
    have hk284 : (t4.toList != ([0, 128] : List UInt8)) = false := bne_eq_false_iff_eq.mpr c282
    clear c282
    by_cases c285 : t6 = 0
    · have H := HH.out
      rw [if_pos c285] at H
      replace HH := Aside0.mk H
      clear H
      have hk286 : (t6 == 0) = true := beq_iff_eq.mpr c285
      have hk287 : (t6 != 0) = false := bne_eq_false_iff_eq.mpr c285
      clear c285
      by_cases c288 : t36.toList = ([255] : List UInt8)
      · have H := HH.out
        rw [if_pos c288] at H
        replace HH := Aside0.mk H
        clear H
        have hk289 : (t36.toList == ([255] : List UInt8)) = true := beq_iff_eq.mpr c288
        have hk290 : (t36.toList != ([255] : List UInt8)) = false := bne_eq_false_iff_eq.mpr c288
        clear c288
        by_cases c291 : t38 = 0
        · have H := HH.out
          rw [if_pos c291] at H
          replace HH := Aside0.mk H
          clear H
          have hk292 : (t38 == 0) = true := beq_iff_eq.mpr c291
          have hk293 : (t38 != 0) = false := bne_eq_false_iff_eq.mpr c291
          clear c291
          by_cases c294 : t123 = true
          · have H := HH.out
            rw [if_pos c294] at H
            replace HH := Aside0.mk H
            clear H
            subst c294
            by_cases c295 : (t126.length : Int) = 2
            · have H := HH.out
              rw [if_pos c295] at H
              replace HH := Aside0.mk H
              clear H
              have hk296 : ((t126.length : Int) == 2) = true := beq_iff_eq.mpr c295
              have hk297 : ((t126.length : Int) != 2) = false := bne_eq_false_iff_eq.mpr c295
              clear c295
              by_cases c298 : t127 = 0
              · have H := HH.out
                rw [if_pos c298] at H
                replace HH := Aside0.mk H
                clear H
                have hk299 : (t127 == 0) = true := beq_iff_eq.mpr c298
                have hk300 : (t127 != 0) = false := bne_eq_false_iff_eq.mpr c298
                clear c298
                by_cases c301 : t214 = (-129)
                · have H := HH.out
                  rw [if_pos c301] at H
                  replace HH := Aside0.mk H
                  clear H
                  have hk302 : (t214 == (-129)) = true := beq_iff_eq.mpr c301
                  have hk303 : (t214 != (-129)) = false := bne_eq_false_iff_eq.mpr c301
                  clear c301
                  by_cases c304 : t215 = 0
                  · have H := HH.out
                    rw [if_pos c304] at H
                    replace HH := Aside0.mk H
                    clear H
                    have hk305 : (t215 == 0) = true := beq_iff_eq.mpr c304
                    have hk306 : (t215 != 0) = false := bne_eq_false_iff_eq.mpr c304
                    clear c304
                    by_cases c307 : t249 = 160
                    · have H := HH.out
                      rw [if_pos c307] at H
                      replace HH := Aside0.mk H
                      clear H
                      have hk308 : (t249 == 160) = true := beq_iff_eq.mpr c307
                      have hk309 : (t249 != 160) = false := bne_eq_false_iff_eq.mpr c307
                      clear c307
                      have H := HH.out
                      replace H := Option.bind_eq_some_iff.mp H
                      obtain ⟨t310, at_, H⟩ := H
                      have At311 := Aside0.mk at_
                      clear at_
                      replace HH := Aside0.mk (show (some t310) = some r from H)
                      clear H
                      go_wp2_with (((with_reducible refine gate_callee (f := 13) rfl ?_); (try (refine gate_guard (by rfl) ?_; dsimp only)); refine goesL_ (some 80) rfl rfl Try.func13 (by kernel_rfl) rfl #[.agg #[.int .i64 t122, .bool true, .int .i64 t124, .string t125, .slice A130 t126.length cp130], .int .i64 0, .int .i64 16, .bool true] rfl (by (try simp only [List.map_toArray, List.map_cons, List.map_nil]); first | done | rfl | (simp only [List.length_drop, List.length_take]; rfl)) ?_; (with_reducible refine (prims_Is.calls (fun k_ => (w.heap.size ≤ k_) ∧ k_ ≠ g10 ∧ k_ ≠ g52 ∧ k_ ≠ g151) t122 true t124 t125 _ _ t126 0 16 true t310 _ (Kd.F_mono (ok := (fun k_ => (w.heap.size ≤ k_) ∧ k_ ≠ g10 ∧ k_ ≠ g52 ∧ k_ ≠ g151)) HF130.out (fun k_ hk_ => ⟨hk_.1, hk_.2.1, hk_.2.2.1, hk_.2.2.2⟩)) HL130.out At311.out).mono ?_); rintro e w312 ⟨rfl, hb⟩; refine ⟨_, rfl, ?_⟩); refine stop_ ?_)
                      refine Stop.go ?_
                      replace HF9 := Aside0.mk (Kd.F_below HF9.out hb)
                      replace HF41 := Aside0.mk (Kd.F_below HF41.out hb)
                      replace HF120 := Aside0.mk (Kd.F_below HF120.out hb)
                      replace HF130 := Aside0.mk (Kd.F_below HF130.out hb)
                      replace BKg10 := Aside0.mk (blk_below (o := .cells #[.int .i64 t1, .bool t2, .int .i64 t3, .string t4, .slice A9 t5.length cp9] 28 (0, 0)) BKg10.out hb)
                      replace BKg52 := Aside0.mk (blk_below (o := .cells #[.int .i64 t33, .bool t34, .int .i64 t35, .string t36, .slice A41 t37.length cp41] 28 (0, 0)) BKg52.out hb)
                      replace BKg151 := Aside0.mk (blk_below (o := .cells #[.int .i64 t122, .bool true, .int .i64 t124, .string t125, .slice A130 t126.length cp130] 28 (0, 0)) BKg151.out hb)
                      replace HB := Aside0.mk (below_step HB.out hb)
                      clear hb
                      clear hz252 hz253 hz254 hz255 hz256 hf257 hf258 hf259 hf260 hf261 hz262 hz263 hz264 hz265 hz266 hf267 hf268 hf269 hf270 hf271 hz272 hz273 hz274 hz275 hz276 hf277 hf278 hf279 hf280 hf281
                      have hz313 : w312.cell? ⟨g10, 0, none⟩ = some (.int .i64 t1) := (blk_cell BKg10.out 0).trans rfl
                      have hz314 : w312.cell? ⟨g10, 1, none⟩ = some (.bool t2) := (blk_cell BKg10.out 1).trans rfl
                      have hz315 : w312.cell? ⟨g10, 2, none⟩ = some (.int .i64 t3) := (blk_cell BKg10.out 2).trans rfl
                      have hz316 : w312.cell? ⟨g10, 3, none⟩ = some (.string t4) := (blk_cell BKg10.out 3).trans rfl
                      have hz317 : w312.cell? ⟨g10, 4, none⟩ = some (.slice A9 t5.length cp9) := (blk_cell BKg10.out 4).trans rfl
                      have hf318 := blk_frozen BKg10.out 0
                      have hf319 := blk_frozen BKg10.out 1
                      have hf320 := blk_frozen BKg10.out 2
                      have hf321 := blk_frozen BKg10.out 3
                      have hf322 := blk_frozen BKg10.out 4
                      have hz323 : w312.cell? ⟨g52, 0, none⟩ = some (.int .i64 t33) := (blk_cell BKg52.out 0).trans rfl
                      have hz324 : w312.cell? ⟨g52, 1, none⟩ = some (.bool t34) := (blk_cell BKg52.out 1).trans rfl
                      have hz325 : w312.cell? ⟨g52, 2, none⟩ = some (.int .i64 t35) := (blk_cell BKg52.out 2).trans rfl
                      have hz326 : w312.cell? ⟨g52, 3, none⟩ = some (.string t36) := (blk_cell BKg52.out 3).trans rfl
                      have hz327 : w312.cell? ⟨g52, 4, none⟩ = some (.slice A41 t37.length cp41) := (blk_cell BKg52.out 4).trans rfl
                      have hf328 := blk_frozen BKg52.out 0
                      have hf329 := blk_frozen BKg52.out 1
                      have hf330 := blk_frozen BKg52.out 2
                      have hf331 := blk_frozen BKg52.out 3
                      have hf332 := blk_frozen BKg52.out 4
                      have hz333 : w312.cell? ⟨g151, 0, none⟩ = some (.int .i64 t122) := (blk_cell BKg151.out 0).trans rfl
                      have hz334 : w312.cell? ⟨g151, 1, none⟩ = some (.bool true) := (blk_cell BKg151.out 1).trans rfl
                      have hz335 : w312.cell? ⟨g151, 2, none⟩ = some (.int .i64 t124) := (blk_cell BKg151.out 2).trans rfl
                      have hz336 : w312.cell? ⟨g151, 3, none⟩ = some (.string t125) := (blk_cell BKg151.out 3).trans rfl
                      have hz337 : w312.cell? ⟨g151, 4, none⟩ = some (.slice A130 t126.length cp130) := (blk_cell BKg151.out 4).trans rfl
                      have hf338 := blk_frozen BKg151.out 0
                      have hf339 := blk_frozen BKg151.out 1
                      have hf340 := blk_frozen BKg151.out 2
                      have hf341 := blk_frozen BKg151.out 3
                      have hf342 := blk_frozen BKg151.out 4
                      have H := HH.out
                      obtain rfl := Option.some.inj H
                      clear HH
                      go_wp2
                      go_ret
                      exact ⟨by first | rfl | (simp; done) | (simp [*]; done), HB.out⟩
                    · have H := HH.out
                      rw [if_neg c307] at H
                      replace HH := Aside0.mk H
                      clear H
                      have hk343 : (t249 == 160) = false := beq_eq_false_iff_ne.mpr c307
                      have hk344 : (t249 != 160) = true := bne_iff_ne.mpr c307
                      clear c307
                      have H := HH.out
                      obtain rfl := Option.some.inj H
                      clear HH
                      go_wp2
                      go_ret
                      exact ⟨by first | rfl | (simp; done) | (simp [*]; done), HB.out⟩
                  · have H := HH.out
                    rw [if_neg c304] at H
                    replace HH := Aside0.mk H
                    clear H
                    have hk345 : (t215 == 0) = false := beq_eq_false_iff_ne.mpr c304
                    have hk346 : (t215 != 0) = true := bne_iff_ne.mpr c304
                    clear c304
                    have H := HH.out
                    obtain rfl := Option.some.inj H
                    clear HH
                    go_wp2
                    go_ret
                    exact ⟨by first | rfl | (simp; done) | (simp [*]; done), HB.out⟩
                · have H := HH.out
                  rw [if_neg c301] at H
                  replace HH := Aside0.mk H
                  clear H
                  have hk347 : (t214 == (-129)) = false := beq_eq_false_iff_ne.mpr c301
                  have hk348 : (t214 != (-129)) = true := bne_iff_ne.mpr c301
                  clear c301
                  have H := HH.out
                  obtain rfl := Option.some.inj H
                  clear HH
                  go_wp2
                  go_ret
                  exact ⟨by first | rfl | (simp; done) | (simp [*]; done), HB.out⟩
              · have H := HH.out
                rw [if_neg c298] at H
                replace HH := Aside0.mk H
                clear H
                have hk349 : (t127 == 0) = false := beq_eq_false_iff_ne.mpr c298
                have hk350 : (t127 != 0) = true := bne_iff_ne.mpr c298
                clear c298
                have H := HH.out
                obtain rfl := Option.some.inj H
                clear HH
                go_wp2
                go_ret
                exact ⟨by first | rfl | (simp; done) | (simp [*]; done), HB.out⟩
            · have H := HH.out
              rw [if_neg c295] at H
              replace HH := Aside0.mk H
              clear H
              have hk351 : ((t126.length : Int) == 2) = false := beq_eq_false_iff_ne.mpr c295
              have hk352 : ((t126.length : Int) != 2) = true := bne_iff_ne.mpr c295
              clear c295
              have H := HH.out
              obtain rfl := Option.some.inj H
              clear HH
              go_wp2
              go_ret
              exact ⟨by first | rfl | (simp; done) | (simp [*]; done), HB.out⟩
          · have H := HH.out
            rw [if_neg c294] at H
            replace HH := Aside0.mk H
            clear H
            replace c294 := Bool.eq_false_iff.mpr c294
            subst c294
            have H := HH.out
            obtain rfl := Option.some.inj H
            clear HH
            go_wp2
            go_ret
            exact ⟨by first | rfl | (simp; done) | (simp [*]; done), HB.out⟩
        · have H := HH.out
          rw [if_neg c291] at H
          replace HH := Aside0.mk H
          clear H
          have hk353 : (t38 == 0) = false := beq_eq_false_iff_ne.mpr c291
          have hk354 : (t38 != 0) = true := bne_iff_ne.mpr c291
          clear c291
          have H := HH.out
          obtain rfl := Option.some.inj H
          clear HH
          go_wp2
          go_ret
          exact ⟨by first | rfl | (simp; done) | (simp [*]; done), HB.out⟩
      · have H := HH.out
        rw [if_neg c288] at H
        replace HH := Aside0.mk H
        clear H
        have hk355 : (t36.toList == ([255] : List UInt8)) = false := beq_eq_false_iff_ne.mpr c288
        have hk356 : (t36.toList != ([255] : List UInt8)) = true := bne_iff_ne.mpr c288
        clear c288
        have H := HH.out
        obtain rfl := Option.some.inj H
        clear HH
        go_wp2
        go_ret
        exact ⟨by first | rfl | (simp; done) | (simp [*]; done), HB.out⟩
    · have H := HH.out
      rw [if_neg c285] at H
      replace HH := Aside0.mk H
      clear H
      have hk357 : (t6 == 0) = false := beq_eq_false_iff_ne.mpr c285
      have hk358 : (t6 != 0) = true := bne_iff_ne.mpr c285
      clear c285
      have H := HH.out
      obtain rfl := Option.some.inj H
      clear HH
      go_wp2
      go_ret
      exact ⟨by first | rfl | (simp; done) | (simp [*]; done), HB.out⟩
  · have H := HH.out
    rw [if_neg c282] at H
    replace HH := Aside0.mk H
    clear H
    have hk359 : (t4.toList == ([0, 128] : List UInt8)) = false := beq_eq_false_iff_ne.mpr c282
    have hk360 : (t4.toList != ([0, 128] : List UInt8)) = true := bne_iff_ne.mpr c282
    clear c282
    have H := HH.out
    obtain rfl := Option.some.inj H
    clear HH
    go_wp2
    go_ret
    exact ⟨by first | rfl | (simp; done) | (simp [*]; done), HB.out⟩

end Go.Proofs.Ytliackbiljhioaa.GA
