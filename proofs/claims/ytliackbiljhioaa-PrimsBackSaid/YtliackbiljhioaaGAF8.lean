-- written by wip/gen.py, a program of this session
import Derived.Test.YtliackbiljhioaaGA0
import Derived.Test.YtliackbiljhioaaGAF10
import Derived.Test.YtliackbiljhioaaGAF13
import Derived.Test.YtliackbiljhioaaGAF14
import Derived.Test.YtliackbiljhioaaGAF15
import Derived.Test.YtliackbiljhioaaGAF17
namespace Go.Proofs.Ytliackbiljhioaa.GA
open Go.RowKit Go.Proofs.Ytliackbiljhioaa Go.Proofs.Ytliackbiljhioaa.MW Go.Proofs.YtliackbiljhioaaW.PrintWords Go.Proofs.YtliackbiljhioaaW.PrintLast Go.Proofs.YtliackbiljhioaaW.PrintMore
attribute [local go_sem] max2_int min2_int max_two min_two
set_option linter.unusedVariables false
set_option linter.unusedSimpArgs false


/-! ### toponymlaw16_awake: function 8 -/
def toponymlaw16_awake.f (k : Nat)  : Option (Bool) := (prims_Int.f k 0 2 128).bind fun bt1 => ((prims_Bool.f 0 1 true).bind fun bt35 => ((prims_Group.f 0 16 [(⟨bt1.1, bt1.2.1, bt1.2.2.1, bt1.2.2.2.1, bt1.2.2.2.2.1⟩ : S28), (⟨bt35.1, bt35.2.1, bt35.2.2.1, bt35.2.2.2.1, bt35.2.2.2.2.1⟩ : S28)]).bind fun bt134 => ((prims_AsInt.f k 0 false 0 (⟨#[255, 127]⟩ : ByteArray) ([] : List (S28))).bind fun bt228 => ((prims_AsInt.f k 0 false 0 (⟨#[0, 5]⟩ : ByteArray) ([] : List (S28))).bind fun bt262 => (if bt1.2.2.2.1.toList = ([0, 128] : List UInt8) then (if bt1.2.2.2.2.2 = 0 then (if bt35.2.2.2.1.toList = ([255] : List UInt8) then (if bt35.2.2.2.2.2 = 0 then (if bt134.2.1 = true then (if (bt134.2.2.2.2.1.length : Int) = 2 then (if bt134.2.2.2.2.2 = 0 then (if bt228.1 = (-129) then (if bt228.2 = 0 then (if bt262.2 = 160 then ((prims_Is.f bt134.1 true bt134.2.2.1 bt134.2.2.2.1 bt134.2.2.2.2.1 0 16 true).bind fun t328 => (some t328)) else (some false)) else (some false)) else (some false)) else (some false)) else (some false)) else (some false)) else (some false)) else (some false)) else (some false)) else (some false))))))
theorem toponymlaw16_awake.mono : ∀ k, LeO (toponymlaw16_awake.f k ) (toponymlaw16_awake.f (k + 1) ) := by
  intro  k
  unfold toponymlaw16_awake.f
  repeat' first
      | (with_reducible exact prims_AsInt.mono _ _ _ _ _ _)
      | (with_reducible exact prims_Int.mono _ _ _ _)
      | (with_reducible exact LeO.refl _)
      | (with_reducible exact LeO.none _)
      | (with_reducible refine LeO.ite ?_ ?_)
      | (with_reducible refine LeO.bind ?_ (fun _ => ?_))
      | exact prims_AsInt.mono _ _ _ _ _ _
      | exact prims_Int.mono _ _ _ _
      | exact LeO.none _
      | refine LeO.ite ?_ ?_
      | refine LeO.bind ?_ (fun _ => ?_)
set_option maxHeartbeats 8000000 in
set_option maxRecDepth 100000 in
theorem toponymlaw16_awake.calls (k : Nat) (r : Bool) (w : World) (h : toponymlaw16_awake.f k  = some r) :
    Calls Try.prog 8 #[] w (fun e w' => e = .returned (.bool r) ∧ Below w.heap.size w w') := by
  have HH := Aside0.mk (show ((prims_Int.f k 0 2 128).bind fun bt1 => ((prims_Bool.f 0 1 true).bind fun bt35 => ((prims_Group.f 0 16 [(⟨bt1.1, bt1.2.1, bt1.2.2.1, bt1.2.2.2.1, bt1.2.2.2.2.1⟩ : S28), (⟨bt35.1, bt35.2.1, bt35.2.2.1, bt35.2.2.2.1, bt35.2.2.2.2.1⟩ : S28)]).bind fun bt134 => ((prims_AsInt.f k 0 false 0 (⟨#[255, 127]⟩ : ByteArray) ([] : List (S28))).bind fun bt228 => ((prims_AsInt.f k 0 false 0 (⟨#[0, 5]⟩ : ByteArray) ([] : List (S28))).bind fun bt262 => (if bt1.2.2.2.1.toList = ([0, 128] : List UInt8) then (if bt1.2.2.2.2.2 = 0 then (if bt35.2.2.2.1.toList = ([255] : List UInt8) then (if bt35.2.2.2.2.2 = 0 then (if bt134.2.1 = true then (if (bt134.2.2.2.2.1.length : Int) = 2 then (if bt134.2.2.2.2.2 = 0 then (if bt228.1 = (-129) then (if bt228.2 = 0 then (if bt262.2 = 160 then ((prims_Is.f bt134.1 true bt134.2.2.1 bt134.2.2.2.1 bt134.2.2.2.2.1 0 16 true).bind fun t328 => (some t328)) else (some false)) else (some false)) else (some false)) else (some false)) else (some false)) else (some false)) else (some false)) else (some false)) else (some false)) else (some false))))))) = some r from h)
  clear h
  have HB := Aside0.mk (Below.refl w.heap.size w)
  have hu28 := Try.underlying28
  go_enter Try.func8, Try.ntmps8
  have H := HH.out
  replace H := Option.bind_eq_some_iff.mp H
  obtain ⟨⟨t1, t2, t3, t4, t5, t6⟩, at_, H⟩ := H
  have At7 := Aside0.mk at_
  clear at_
  replace HH := Aside0.mk (show ((prims_Bool.f 0 1 true).bind fun bt35 => ((prims_Group.f 0 16 [(⟨t1, t2, t3, t4, t5⟩ : S28), (⟨bt35.1, bt35.2.1, bt35.2.2.1, bt35.2.2.2.1, bt35.2.2.2.2.1⟩ : S28)]).bind fun bt134 => ((prims_AsInt.f k 0 false 0 (⟨#[255, 127]⟩ : ByteArray) ([] : List (S28))).bind fun bt228 => ((prims_AsInt.f k 0 false 0 (⟨#[0, 5]⟩ : ByteArray) ([] : List (S28))).bind fun bt262 => (if t4.toList = ([0, 128] : List UInt8) then (if t6 = 0 then (if bt35.2.2.2.1.toList = ([255] : List UInt8) then (if bt35.2.2.2.2.2 = 0 then (if bt134.2.1 = true then (if (bt134.2.2.2.2.1.length : Int) = 2 then (if bt134.2.2.2.2.2 = 0 then (if bt228.1 = (-129) then (if bt228.2 = 0 then (if bt262.2 = 160 then ((prims_Is.f bt134.1 true bt134.2.2.1 bt134.2.2.2.1 bt134.2.2.2.2.1 0 16 true).bind fun t328 => (some t328)) else (some false)) else (some false)) else (some false)) else (some false)) else (some false)) else (some false)) else (some false)) else (some false)) else (some false)) else (some false)))))) = some r from H)
  clear H
  go_wp2_with (((with_reducible refine gate_callee (f := 15) rfl ?_); (try (refine gate_guard (by rfl) ?_; dsimp only)); refine goesL_ (some 12) rfl rfl Try.func15 (by kernel_rfl) rfl #[.int .i64 0, .int .i64 2, .int .i64 128] rfl (by (try simp only [List.map_toArray, List.map_cons, List.map_nil]); first | done | rfl | (simp only [List.length_drop, List.length_take]; rfl)) ?_; (with_reducible refine (prims_Int.calls k  0 2 128 t1 t2 t3 t4 t5 t6 _  At7.out).mono ?_); rintro e w8 ⟨v9, rfl, hn9, hb⟩; refine ⟨_, rfl, ?_⟩); refine stop_ ?_)
  refine Stop.go ?_
  have hba := Kd.N_base hn9
  have HN9 := Aside0.mk (Kd.N_mono (Kd.N_lower hn9 (below_size HB.out)) (fun k_ h_ => (Nat.le_trans (below_size HB.out) h_)) : Kd.N k28 28 w8 w.heap.size (fun k_ => (w.heap.size ≤ k_)) v9 t5)
  replace HB := Aside0.mk (below_step HB.out hb)
  clear hn9 hba hb
  go_wp2_with (((with_reducible refine gate_dst (N := 1) rfl ?_); (try (refine gate_guard (by rfl) ?_; dsimp only)); refine box_event ?hg (N := 1) ?hd (cs := #[.int .i64 0, .bool false, .int .i64 0, .string (⟨#[]⟩ : ByteArray), .slice none 0 0]) (t := 28) ?hr ?_; (case hd => rfl); (case hg => rfl); (case hr => first | (go_simp; done) | (go_simp; rfl)); intro g10 hg w11 hbox hb); replace hg := Aside0.mk hg; replace hbox := Aside0.mk hbox; refine stop_ ?_)
  refine Stop.go ?_
  replace hg := hg.out
  replace hbox := hbox.out
  have GEg10 := Aside0.mk (by rw [hg]; exact (below_size HB.out) : w.heap.size ≤ g10)
  replace HN9 := Aside0.mk (Kd.N_elderB HN9.out g10 (Nat.le_of_eq hg.symm))
  replace HN9 := Aside0.mk (Kd.N_mono HN9.out (fun k_ hk_ => ⟨hk_.1, hk_.2⟩) : Kd.N k28 _ _ _ (fun k_ => (w.heap.size ≤ k_) ∧ k_ ≠ g10) _ _)
  replace HN9 := Aside0.mk (Kd.N_below HN9.out hb)
  replace HB := Aside0.mk (below_step HB.out hb)
  have BKg10 := Aside0.mk hbox
  clear hg hbox hb
  obtain ⟨hz12, hz13, hz14, hz15, hz16, hf17, hf18, hf19, hf20, hf21⟩ := MB.lay5 BKg10.out
  obtain ⟨A23, cp24, he_⟩ := Kd.N_slice HN9.out
  subst he_
  go_wp2_with (((with_reducible refine gate_store (t := 28) (p := 1) rfl ?_); (try (refine gate_guard (by rfl) ?_; dsimp only)); refine MW.ev_store #[.int .i64 t1, .bool t2, .int .i64 t3, .string t4, (.slice A23 t5.length cp24)] rfl rfl rfl rfl (cs := #[.int .i64 0, .bool false, .int .i64 0, .string (⟨#[]⟩ : ByteArray), .slice none 0 0]) (ty := 28) BKg10.out [.int .i64 t1, .bool t2, .int .i64 t3, .string t4, (.slice A23 t5.length cp24)] rfl (by kernel_rfl) (by simp) (by simp [Value.oneCell']) rfl ?_; intro w22 hbk hg); replace hbk := Aside0.mk hbk; refine stop_ ?_)
  refine Stop.go ?_
  replace hbk := hbk.out
  replace HN9 := Aside0.mk (Kd.N_grown (ok := (fun k_ => (w.heap.size ≤ k_) ∧ k_ ≠ g10)) HN9.out hg (fun k_ hk_ he_ => hk_.2 (Option.some.inj he_)))
  replace HB := Aside0.mk (Below.grown HB.out hg (below_size HB.out) (fun k_ hk_ => by injection hk_ with hk_; rw [← hk_]; exact GEg10.out))
  replace BKg10 := Aside0.mk hbk
  clear hg hbk
  clear hz12 hz13 hz14 hz15 hz16 hf17 hf18 hf19 hf20 hf21
  obtain ⟨hz25, hz26, hz27, hz28, hz29, hf30, hf31, hf32, hf33, hf34⟩ := MB.lay5 BKg10.out
  have H := HH.out
  replace H := Option.bind_eq_some_iff.mp H
  obtain ⟨⟨t35, t36, t37, t38, t39, t40⟩, at_, H⟩ := H
  have At41 := Aside0.mk at_
  clear at_
  replace HH := Aside0.mk (show ((prims_Group.f 0 16 [(⟨t1, t2, t3, t4, t5⟩ : S28), (⟨t35, t36, t37, t38, t39⟩ : S28)]).bind fun bt134 => ((prims_AsInt.f k 0 false 0 (⟨#[255, 127]⟩ : ByteArray) ([] : List (S28))).bind fun bt228 => ((prims_AsInt.f k 0 false 0 (⟨#[0, 5]⟩ : ByteArray) ([] : List (S28))).bind fun bt262 => (if t4.toList = ([0, 128] : List UInt8) then (if t6 = 0 then (if t38.toList = ([255] : List UInt8) then (if t40 = 0 then (if bt134.2.1 = true then (if (bt134.2.2.2.2.1.length : Int) = 2 then (if bt134.2.2.2.2.2 = 0 then (if bt228.1 = (-129) then (if bt228.2 = 0 then (if bt262.2 = 160 then ((prims_Is.f bt134.1 true bt134.2.2.1 bt134.2.2.2.1 bt134.2.2.2.2.1 0 16 true).bind fun t328 => (some t328)) else (some false)) else (some false)) else (some false)) else (some false)) else (some false)) else (some false)) else (some false)) else (some false)) else (some false)) else (some false))))) = some r from H)
  clear H
  go_wp2_with (((with_reducible refine gate_callee (f := 17) rfl ?_); (try (refine gate_guard (by rfl) ?_; dsimp only)); refine goesL_ (some 16) rfl rfl Try.func17 (by kernel_rfl) rfl #[.int .i64 0, .int .i64 1, .bool true] rfl (by (try simp only [List.map_toArray, List.map_cons, List.map_nil]); first | done | rfl | (simp only [List.length_drop, List.length_take]; rfl)) ?_; (with_reducible refine (prims_Bool.calls  0 1 true t35 t36 t37 t38 t39 t40 _  At41.out).mono ?_); rintro e w42 ⟨v43, rfl, hn43, hb⟩; refine ⟨_, rfl, ?_⟩); refine stop_ ?_)
  refine Stop.go ?_
  have hba := Kd.N_base hn43
  have HN43 := Aside0.mk (Kd.N_mono (Kd.N_lower hn43 (below_size HB.out)) (fun k_ h_ => ⟨(Nat.le_trans (below_size HB.out) h_), Kd.fresh' (Kd.N_lt HN9.out) k_ h_, Kd.freshB (o := .cells #[.int .i64 t1, .bool t2, .int .i64 t3, .string t4, (.slice A23 t5.length cp24)] 28 (0, 0)) BKg10.out k_ h_⟩) : Kd.N k28 28 w42 w.heap.size (fun k_ => (w.heap.size ≤ k_) ∧ some k_ ≠ ((.slice A23 t5.length cp24) : Value).ownBlock ∧ k_ ≠ g10) v43 t39)
  replace HN9 := Aside0.mk (Kd.N_mono (Kd.N_elder' (ok := (fun k_ => (w.heap.size ≤ k_) ∧ k_ ≠ g10)) HN9.out hba hb) (fun k_ hk_ => ⟨hk_.1.1, hk_.1.2, hk_.2⟩) : Kd.N k28 _ _ _ (fun k_ => (w.heap.size ≤ k_) ∧ k_ ≠ g10 ∧ some k_ ≠ (v43 : Value).ownBlock) _ _)
  replace BKg10 := Aside0.mk (blk_below (o := .cells #[.int .i64 t1, .bool t2, .int .i64 t3, .string t4, (.slice A23 t5.length cp24)] 28 (0, 0)) BKg10.out hb)
  replace HB := Aside0.mk (below_step HB.out hb)
  clear hn43 hba hb
  clear hz25 hz26 hz27 hz28 hz29 hf30 hf31 hf32 hf33 hf34
  obtain ⟨hz44, hz45, hz46, hz47, hz48, hf49, hf50, hf51, hf52, hf53⟩ := MB.lay5 BKg10.out
  go_wp2_with (((with_reducible refine gate_dst (N := 3) rfl ?_); (try (refine gate_guard (by rfl) ?_; dsimp only)); refine box_event ?hg (N := 3) ?hd (cs := #[.int .i64 0, .bool false, .int .i64 0, .string (⟨#[]⟩ : ByteArray), .slice none 0 0]) (t := 28) ?hr ?_; (case hd => rfl); (case hg => rfl); (case hr => first | (go_simp; done) | (go_simp; rfl)); intro g54 hg w55 hbox hb); replace hg := Aside0.mk hg; replace hbox := Aside0.mk hbox; refine stop_ ?_)
  refine Stop.go ?_
  replace hg := hg.out
  replace hbox := hbox.out
  have GEg54 := Aside0.mk (by rw [hg]; exact (below_size HB.out) : w.heap.size ≤ g54)
  replace HN9 := Aside0.mk (Kd.N_elderB HN9.out g54 (Nat.le_of_eq hg.symm))
  replace HN9 := Aside0.mk (Kd.N_mono HN9.out (fun k_ hk_ => ⟨hk_.1.1, hk_.1.2.1, hk_.1.2.2, hk_.2⟩) : Kd.N k28 _ _ _ (fun k_ => (w.heap.size ≤ k_) ∧ k_ ≠ g10 ∧ some k_ ≠ (v43 : Value).ownBlock ∧ k_ ≠ g54) _ _)
  replace HN43 := Aside0.mk (Kd.N_elderB HN43.out g54 (Nat.le_of_eq hg.symm))
  replace HN43 := Aside0.mk (Kd.N_mono HN43.out (fun k_ hk_ => ⟨hk_.1.1, hk_.1.2.1, hk_.1.2.2, hk_.2⟩) : Kd.N k28 _ _ _ (fun k_ => (w.heap.size ≤ k_) ∧ some k_ ≠ ((.slice A23 t5.length cp24) : Value).ownBlock ∧ k_ ≠ g10 ∧ k_ ≠ g54) _ _)
  have NEg10_g54 := Aside0.mk (by rw [hg]; exact Nat.ne_of_lt (blk_lt (o := .cells #[.int .i64 t1, .bool t2, .int .i64 t3, .string t4, (.slice A23 t5.length cp24)] 28 (0, 0)) BKg10.out) : g10 ≠ g54)
  have NEg54_g10 := Aside0.mk (Ne.symm NEg10_g54.out)
  replace HN9 := Aside0.mk (Kd.N_below HN9.out hb)
  replace HN43 := Aside0.mk (Kd.N_below HN43.out hb)
  replace BKg10 := Aside0.mk (blk_below (o := .cells #[.int .i64 t1, .bool t2, .int .i64 t3, .string t4, (.slice A23 t5.length cp24)] 28 (0, 0)) BKg10.out hb)
  replace HB := Aside0.mk (below_step HB.out hb)
  have BKg54 := Aside0.mk hbox
  clear hg hbox hb
  clear hz44 hz45 hz46 hz47 hz48 hf49 hf50 hf51 hf52 hf53
  obtain ⟨hz56, hz57, hz58, hz59, hz60, hf61, hf62, hf63, hf64, hf65⟩ := MB.lay5 BKg10.out
  obtain ⟨hz66, hz67, hz68, hz69, hz70, hf71, hf72, hf73, hf74, hf75⟩ := MB.lay5 BKg54.out
  obtain ⟨A77, cp78, he_⟩ := Kd.N_slice HN43.out
  subst he_
  go_wp2_with (((with_reducible refine gate_store (t := 28) (p := 3) rfl ?_); (try (refine gate_guard (by rfl) ?_; dsimp only)); refine MW.ev_store #[.int .i64 t35, .bool t36, .int .i64 t37, .string t38, (.slice A77 t39.length cp78)] rfl rfl rfl rfl (cs := #[.int .i64 0, .bool false, .int .i64 0, .string (⟨#[]⟩ : ByteArray), .slice none 0 0]) (ty := 28) BKg54.out [.int .i64 t35, .bool t36, .int .i64 t37, .string t38, (.slice A77 t39.length cp78)] rfl (by kernel_rfl) (by simp) (by simp [Value.oneCell']) rfl ?_; intro w76 hbk hg); replace hbk := Aside0.mk hbk; refine stop_ ?_)
  refine Stop.go ?_
  replace hbk := hbk.out
  replace HN9 := Aside0.mk (Kd.N_grown (ok := (fun k_ => (w.heap.size ≤ k_) ∧ k_ ≠ g10 ∧ some k_ ≠ ((.slice A77 t39.length cp78) : Value).ownBlock ∧ k_ ≠ g54)) HN9.out hg (fun k_ hk_ he_ => hk_.2.2.2 (Option.some.inj he_)))
  replace HN43 := Aside0.mk (Kd.N_grown (ok := (fun k_ => (w.heap.size ≤ k_) ∧ some k_ ≠ ((.slice A23 t5.length cp24) : Value).ownBlock ∧ k_ ≠ g10 ∧ k_ ≠ g54)) HN43.out hg (fun k_ hk_ he_ => hk_.2.2.2 (Option.some.inj he_)))
  replace BKg10 := Aside0.mk (blk_grown (o := .cells #[.int .i64 t1, .bool t2, .int .i64 t3, .string t4, (.slice A23 t5.length cp24)] 28 (0, 0)) BKg10.out hg (fun he_ => NEg10_g54.out (Option.some.inj he_)))
  replace HB := Aside0.mk (Below.grown HB.out hg (below_size HB.out) (fun k_ hk_ => by injection hk_ with hk_; rw [← hk_]; exact GEg54.out))
  replace BKg54 := Aside0.mk hbk
  clear hg hbk
  clear hz56 hz57 hz58 hz59 hz60 hf61 hf62 hf63 hf64 hf65 hz66 hz67 hz68 hz69 hz70 hf71 hf72 hf73 hf74 hf75
  obtain ⟨hz79, hz80, hz81, hz82, hz83, hf84, hf85, hf86, hf87, hf88⟩ := MB.lay5 BKg10.out
  obtain ⟨hz89, hz90, hz91, hz92, hz93, hf94, hf95, hf96, hf97, hf98⟩ := MB.lay5 BKg54.out
  have HL102 := Aside0.mk (Kd.N_reads' HN9.out).2.1
  have HF101 := Aside0.mk (Kd.N_F HN9.out)
  clear HN9
  replace HN43 := Aside0.mk (Kd.N_mono (ok := (fun k_ => (w.heap.size ≤ k_) ∧ some k_ ≠ ((.slice A23 t5.length cp24) : Value).ownBlock ∧ k_ ≠ g10 ∧ k_ ≠ g54)) HN43.out (fun k_ hk_ => ⟨hk_.1, hk_.2.2.1, hk_.2.2.2⟩) : Kd.N k28 _ _ _ (fun k_ => (w.heap.size ≤ k_) ∧ k_ ≠ g10 ∧ k_ ≠ g54) _ _)
  have HL106 := Aside0.mk (Kd.N_reads' HN43.out).2.1
  have HF105 := Aside0.mk (Kd.N_F HN43.out)
  clear HN43
  replace HF101 := Aside0.mk (Kd.F_mono (ok := (fun k_ => (w.heap.size ≤ k_) ∧ k_ ≠ g10 ∧ some k_ ≠ ((.slice A77 t39.length cp78) : Value).ownBlock ∧ k_ ≠ g54)) HF101.out (fun k_ hk_ => ⟨hk_.1, hk_.2.1, hk_.2.2.2⟩) : Kd.F k28 _ (fun k_ => (w.heap.size ≤ k_) ∧ k_ ≠ g10 ∧ k_ ≠ g54) _ _ _)
  go_wp2_with (((with_reducible refine gate_dst (N := 22) rfl ?_); (try (refine gate_guard (by rfl) ?_; dsimp only)); refine Kd.N_lit k28 w.heap.size 28 rfl (N' := 22) rfl (xs := [(⟨t1, t2, t3, t4, t5⟩ : S28), (⟨t35, t36, t37, t38, t39⟩ : S28)]) (inner := [.int .i64 t1, .bool t2, .int .i64 t3, .string t4, .slice A23 t5.length cp24, .int .i64 t35, .bool t36, .int .i64 t37, .string t38, .slice A77 t39.length cp78]) (ok := (fun k_ => (w.heap.size ≤ k_) ∧ k_ ≠ g10 ∧ k_ ≠ g54)) (okp := (fun k_ => (w.heap.size ≤ k_) ∧ k_ ≠ g10 ∧ k_ ≠ g54)) ?hr ?hp (fun _ hk_ => hk_) ?hf HB.out (below_size HB.out) (by first | simp | decide) ?_; (case hr => first | (go_simp; done) | (go_simp; rfl)); (case hp => exact (Reps.c5 (k28_mkF _ _ (⟨t1, t2, t3, t4, t5⟩ : S28) HL102.out (Kd.F_mono (ok := (fun k_ => (w.heap.size ≤ k_) ∧ k_ ≠ g10 ∧ k_ ≠ g54)) HF101.out (fun k_ hk_ => ⟨hk_.1, hk_.2.1, hk_.2.2⟩))) (Reps.c5 (k28_mkF _ _ (⟨t35, t36, t37, t38, t39⟩ : S28) HL106.out (Kd.F_mono (ok := (fun k_ => (w.heap.size ≤ k_) ∧ k_ ≠ g10 ∧ k_ ≠ g54)) HF105.out (fun k_ hk_ => ⟨hk_.1, hk_.2.1, hk_.2.2⟩))) (Reps.none _ _)))); (case hf => exact (show ∀ k_, w76.heap.size ≤ k_ → (fun k_ => (w.heap.size ≤ k_) ∧ k_ ≠ g10 ∧ k_ ≠ g54) k_ from fun k_ h_ => ⟨(Nat.le_trans (below_size HB.out) h_), Kd.freshB (o := .cells #[.int .i64 t1, .bool t2, .int .i64 t3, .string t4, .slice A23 t5.length cp24] 28 (0, 0)) BKg10.out k_ h_, Kd.freshB (o := .cells #[.int .i64 t35, .bool t36, .int .i64 t37, .string t38, .slice A77 t39.length cp78] 28 (0, 0)) BKg54.out k_ h_⟩) _ (Nat.le_refl _)); intro v107 w108 hn1 hb1 hg1 hat1); replace hat1 := Aside0.mk hat1; refine stop_ ?_)
  refine Stop.go ?_
  replace hat1 := hat1.out
  have hbe := MW.grown_below hg1
  have hba := MW.base_of hat1
  replace HF101 := Aside0.mk (Kd.F_mono (Kd.F_elder' (ok := (fun k_ => (w.heap.size ≤ k_) ∧ k_ ≠ g10 ∧ k_ ≠ g54)) HF101.out hba hbe) (fun k_ hk_ => ⟨hk_.1.1, hk_.1.2.1, hk_.1.2.2, hk_.2⟩) : Kd.F k28 _ (fun k_ => (w.heap.size ≤ k_) ∧ k_ ≠ g10 ∧ k_ ≠ g54 ∧ some k_ ≠ (v107 : Value).ownBlock) _ _ _)
  replace HF105 := Aside0.mk (Kd.F_mono (Kd.F_elder' (ok := (fun k_ => (w.heap.size ≤ k_) ∧ k_ ≠ g10 ∧ k_ ≠ g54)) HF105.out hba hbe) (fun k_ hk_ => ⟨hk_.1.1, hk_.1.2.1, hk_.1.2.2, hk_.2⟩) : Kd.F k28 _ (fun k_ => (w.heap.size ≤ k_) ∧ k_ ≠ g10 ∧ k_ ≠ g54 ∧ some k_ ≠ (v107 : Value).ownBlock) _ _ _)
  replace BKg10 := Aside0.mk (blk_below (o := .cells #[.int .i64 t1, .bool t2, .int .i64 t3, .string t4, .slice A23 t5.length cp24] 28 (0, 0)) BKg10.out hbe)
  replace BKg54 := Aside0.mk (blk_below (o := .cells #[.int .i64 t35, .bool t36, .int .i64 t37, .string t38, .slice A77 t39.length cp78] 28 (0, 0)) BKg54.out hbe)
  replace HB := Aside0.mk hb1
  have HN109 := Aside0.mk hn1
  clear hn1 hb1 hg1 hat1 hbe hba
  clear hz79 hz80 hz81 hz82 hz83 hf84 hf85 hf86 hf87 hf88 hz89 hz90 hz91 hz92 hz93 hf94 hf95 hf96 hf97 hf98
  obtain ⟨hz110, hz111, hz112, hz113, hz114, hf115, hf116, hf117, hf118, hf119⟩ := MB.lay5 BKg10.out
  obtain ⟨hz120, hz121, hz122, hz123, hz124, hf125, hf126, hf127, hf128, hf129⟩ := MB.lay5 BKg54.out
  obtain ⟨A130, cp131, he_⟩ := Kd.N_slice HN109.out
  subst he_
  have HL133 := Aside0.mk (Kd.N_reads' HN109.out).2.1
  have HF132 := Aside0.mk (Kd.N_F HN109.out)
  clear HN109
  replace HF101 := Aside0.mk (Kd.F_mono (ok := (fun k_ => (w.heap.size ≤ k_) ∧ k_ ≠ g10 ∧ k_ ≠ g54 ∧ some k_ ≠ ((.slice A130 [(⟨t1, t2, t3, t4, t5⟩ : S28), (⟨t35, t36, t37, t38, t39⟩ : S28)].length cp131) : Value).ownBlock)) HF101.out (fun k_ hk_ => ⟨hk_.1, hk_.2.1, hk_.2.2.1⟩) : Kd.F k28 _ (fun k_ => (w.heap.size ≤ k_) ∧ k_ ≠ g10 ∧ k_ ≠ g54) _ _ _)
  replace HF105 := Aside0.mk (Kd.F_mono (ok := (fun k_ => (w.heap.size ≤ k_) ∧ k_ ≠ g10 ∧ k_ ≠ g54 ∧ some k_ ≠ ((.slice A130 [(⟨t1, t2, t3, t4, t5⟩ : S28), (⟨t35, t36, t37, t38, t39⟩ : S28)].length cp131) : Value).ownBlock)) HF105.out (fun k_ hk_ => ⟨hk_.1, hk_.2.1, hk_.2.2.1⟩) : Kd.F k28 _ (fun k_ => (w.heap.size ≤ k_) ∧ k_ ≠ g10 ∧ k_ ≠ g54) _ _ _)
  have H := HH.out
  replace H := Option.bind_eq_some_iff.mp H
  obtain ⟨⟨t134, t135, t136, t137, t138, t139⟩, at_, H⟩ := H
  have At140 := Aside0.mk at_
  clear at_
  replace HH := Aside0.mk (show ((prims_AsInt.f k 0 false 0 (⟨#[255, 127]⟩ : ByteArray) ([] : List (S28))).bind fun bt228 => ((prims_AsInt.f k 0 false 0 (⟨#[0, 5]⟩ : ByteArray) ([] : List (S28))).bind fun bt262 => (if t4.toList = ([0, 128] : List UInt8) then (if t6 = 0 then (if t38.toList = ([255] : List UInt8) then (if t40 = 0 then (if t135 = true then (if (t138.length : Int) = 2 then (if t139 = 0 then (if bt228.1 = (-129) then (if bt228.2 = 0 then (if bt262.2 = 160 then ((prims_Is.f t134 true t136 t137 t138 0 16 true).bind fun t328 => (some t328)) else (some false)) else (some false)) else (some false)) else (some false)) else (some false)) else (some false)) else (some false)) else (some false)) else (some false)) else (some false)))) = some r from H)
  clear H
  go_wp2_with (((with_reducible refine gate_callee (f := 10) rfl ?_); (try (refine gate_guard (by rfl) ?_; dsimp only)); refine goesL_ (some 23) rfl rfl Try.func10 (by kernel_rfl) rfl #[.int .i64 0, .int .i64 16, .slice A130 [(⟨t1, t2, t3, t4, t5⟩ : S28), (⟨t35, t36, t37, t38, t39⟩ : S28)].length cp131] rfl (by (try simp only [List.map_toArray, List.map_cons, List.map_nil]); first | done | rfl | (simp only [List.length_drop, List.length_take]; rfl)) ?_; (with_reducible refine (prims_Group.calls (fun k_ => (w.heap.size ≤ k_) ∧ k_ ≠ g10 ∧ k_ ≠ g54) 0 16 _ _ [(⟨t1, t2, t3, t4, t5⟩ : S28), (⟨t35, t36, t37, t38, t39⟩ : S28)] t134 t135 t136 t137 t138 t139 _ (Kd.F_mono (ok := (fun k_ => (w.heap.size ≤ k_) ∧ k_ ≠ g10 ∧ k_ ≠ g54)) HF132.out (fun k_ hk_ => ⟨hk_.1, hk_.2.1, hk_.2.2⟩)) HL133.out At140.out).mono ?_); rintro e w141 ⟨v142, rfl, hn142, hb⟩; refine ⟨_, rfl, ?_⟩); refine stop_ ?_)
  refine Stop.go ?_
  have hba := Kd.N_base hn142
  have HN142 := Aside0.mk (Kd.N_mono (Kd.N_lower hn142 (below_size HB.out)) (fun k_ hk_ => hk_.elim (fun h_ => h_) (fun h_ => ⟨(Nat.le_trans (below_size HB.out) h_), Kd.freshB (o := .cells #[.int .i64 t1, .bool t2, .int .i64 t3, .string t4, .slice A23 t5.length cp24] 28 (0, 0)) BKg10.out k_ h_, Kd.freshB (o := .cells #[.int .i64 t35, .bool t36, .int .i64 t37, .string t38, .slice A77 t39.length cp78] 28 (0, 0)) BKg54.out k_ h_⟩)) : Kd.N k28 28 w141 w.heap.size (fun k_ => (w.heap.size ≤ k_) ∧ k_ ≠ g10 ∧ k_ ≠ g54) v142 t138)
  replace HF101 := Aside0.mk (Kd.F_mono (Kd.F_elder' (ok := (fun k_ => (w.heap.size ≤ k_) ∧ k_ ≠ g10 ∧ k_ ≠ g54)) HF101.out hba hb) (fun k_ hk_ => ⟨hk_.1.1, hk_.1.2.1, hk_.1.2.2, hk_.2⟩) : Kd.F k28 _ (fun k_ => (w.heap.size ≤ k_) ∧ k_ ≠ g10 ∧ k_ ≠ g54 ∧ some k_ ≠ (v142 : Value).ownBlock) _ _ _)
  replace HF105 := Aside0.mk (Kd.F_mono (Kd.F_elder' (ok := (fun k_ => (w.heap.size ≤ k_) ∧ k_ ≠ g10 ∧ k_ ≠ g54)) HF105.out hba hb) (fun k_ hk_ => ⟨hk_.1.1, hk_.1.2.1, hk_.1.2.2, hk_.2⟩) : Kd.F k28 _ (fun k_ => (w.heap.size ≤ k_) ∧ k_ ≠ g10 ∧ k_ ≠ g54 ∧ some k_ ≠ (v142 : Value).ownBlock) _ _ _)
  replace HF132 := Aside0.mk (Kd.F_mono (Kd.F_elder' (ok := (fun k_ => (w.heap.size ≤ k_) ∧ k_ ≠ g10 ∧ k_ ≠ g54)) HF132.out hba hb) (fun k_ hk_ => ⟨hk_.1.1, hk_.1.2.1, hk_.1.2.2, hk_.2⟩) : Kd.F k28 _ (fun k_ => (w.heap.size ≤ k_) ∧ k_ ≠ g10 ∧ k_ ≠ g54 ∧ some k_ ≠ (v142 : Value).ownBlock) _ _ _)
  replace BKg10 := Aside0.mk (blk_below (o := .cells #[.int .i64 t1, .bool t2, .int .i64 t3, .string t4, .slice A23 t5.length cp24] 28 (0, 0)) BKg10.out hb)
  replace BKg54 := Aside0.mk (blk_below (o := .cells #[.int .i64 t35, .bool t36, .int .i64 t37, .string t38, .slice A77 t39.length cp78] 28 (0, 0)) BKg54.out hb)
  replace HB := Aside0.mk (below_step HB.out hb)
  clear hn142 hba hb
  clear hz110 hz111 hz112 hz113 hz114 hf115 hf116 hf117 hf118 hf119 hz120 hz121 hz122 hz123 hz124 hf125 hf126 hf127 hf128 hf129
  obtain ⟨hz143, hz144, hz145, hz146, hz147, hf148, hf149, hf150, hf151, hf152⟩ := MB.lay5 BKg10.out
  obtain ⟨hz153, hz154, hz155, hz156, hz157, hf158, hf159, hf160, hf161, hf162⟩ := MB.lay5 BKg54.out
  go_wp2_with (((with_reducible refine gate_dst (N := 5) rfl ?_); (try (refine gate_guard (by rfl) ?_; dsimp only)); refine box_event ?hg (N := 5) ?hd (cs := #[.int .i64 0, .bool false, .int .i64 0, .string (⟨#[]⟩ : ByteArray), .slice none 0 0]) (t := 28) ?hr ?_; (case hd => rfl); (case hg => rfl); (case hr => first | (go_simp; done) | (go_simp; rfl)); intro g163 hg w164 hbox hb); replace hg := Aside0.mk hg; replace hbox := Aside0.mk hbox; refine stop_ ?_)
  refine Stop.go ?_
  replace hg := hg.out
  replace hbox := hbox.out
  have GEg163 := Aside0.mk (by rw [hg]; exact (below_size HB.out) : w.heap.size ≤ g163)
  replace HF101 := Aside0.mk (Kd.F_elderB HF101.out g163 (Nat.le_of_eq hg.symm))
  replace HF101 := Aside0.mk (Kd.F_mono HF101.out (fun k_ hk_ => ⟨hk_.1.1, hk_.1.2.1, hk_.1.2.2.1, hk_.1.2.2.2, hk_.2⟩) : Kd.F k28 _ (fun k_ => (w.heap.size ≤ k_) ∧ k_ ≠ g10 ∧ k_ ≠ g54 ∧ some k_ ≠ (v142 : Value).ownBlock ∧ k_ ≠ g163) _ _ _)
  replace HF105 := Aside0.mk (Kd.F_elderB HF105.out g163 (Nat.le_of_eq hg.symm))
  replace HF105 := Aside0.mk (Kd.F_mono HF105.out (fun k_ hk_ => ⟨hk_.1.1, hk_.1.2.1, hk_.1.2.2.1, hk_.1.2.2.2, hk_.2⟩) : Kd.F k28 _ (fun k_ => (w.heap.size ≤ k_) ∧ k_ ≠ g10 ∧ k_ ≠ g54 ∧ some k_ ≠ (v142 : Value).ownBlock ∧ k_ ≠ g163) _ _ _)
  replace HF132 := Aside0.mk (Kd.F_elderB HF132.out g163 (Nat.le_of_eq hg.symm))
  replace HF132 := Aside0.mk (Kd.F_mono HF132.out (fun k_ hk_ => ⟨hk_.1.1, hk_.1.2.1, hk_.1.2.2.1, hk_.1.2.2.2, hk_.2⟩) : Kd.F k28 _ (fun k_ => (w.heap.size ≤ k_) ∧ k_ ≠ g10 ∧ k_ ≠ g54 ∧ some k_ ≠ (v142 : Value).ownBlock ∧ k_ ≠ g163) _ _ _)
  replace HN142 := Aside0.mk (Kd.N_elderB HN142.out g163 (Nat.le_of_eq hg.symm))
  replace HN142 := Aside0.mk (Kd.N_mono HN142.out (fun k_ hk_ => ⟨hk_.1.1, hk_.1.2.1, hk_.1.2.2, hk_.2⟩) : Kd.N k28 _ _ _ (fun k_ => (w.heap.size ≤ k_) ∧ k_ ≠ g10 ∧ k_ ≠ g54 ∧ k_ ≠ g163) _ _)
  have NEg10_g163 := Aside0.mk (by rw [hg]; exact Nat.ne_of_lt (blk_lt (o := .cells #[.int .i64 t1, .bool t2, .int .i64 t3, .string t4, .slice A23 t5.length cp24] 28 (0, 0)) BKg10.out) : g10 ≠ g163)
  have NEg163_g10 := Aside0.mk (Ne.symm NEg10_g163.out)
  have NEg54_g163 := Aside0.mk (by rw [hg]; exact Nat.ne_of_lt (blk_lt (o := .cells #[.int .i64 t35, .bool t36, .int .i64 t37, .string t38, .slice A77 t39.length cp78] 28 (0, 0)) BKg54.out) : g54 ≠ g163)
  have NEg163_g54 := Aside0.mk (Ne.symm NEg54_g163.out)
  replace HF101 := Aside0.mk (Kd.F_below HF101.out hb)
  replace HF105 := Aside0.mk (Kd.F_below HF105.out hb)
  replace HF132 := Aside0.mk (Kd.F_below HF132.out hb)
  replace HN142 := Aside0.mk (Kd.N_below HN142.out hb)
  replace BKg10 := Aside0.mk (blk_below (o := .cells #[.int .i64 t1, .bool t2, .int .i64 t3, .string t4, .slice A23 t5.length cp24] 28 (0, 0)) BKg10.out hb)
  replace BKg54 := Aside0.mk (blk_below (o := .cells #[.int .i64 t35, .bool t36, .int .i64 t37, .string t38, .slice A77 t39.length cp78] 28 (0, 0)) BKg54.out hb)
  replace HB := Aside0.mk (below_step HB.out hb)
  have BKg163 := Aside0.mk hbox
  clear hg hbox hb
  clear hz143 hz144 hz145 hz146 hz147 hf148 hf149 hf150 hf151 hf152 hz153 hz154 hz155 hz156 hz157 hf158 hf159 hf160 hf161 hf162
  obtain ⟨hz165, hz166, hz167, hz168, hz169, hf170, hf171, hf172, hf173, hf174⟩ := MB.lay5 BKg10.out
  obtain ⟨hz175, hz176, hz177, hz178, hz179, hf180, hf181, hf182, hf183, hf184⟩ := MB.lay5 BKg54.out
  obtain ⟨hz185, hz186, hz187, hz188, hz189, hf190, hf191, hf192, hf193, hf194⟩ := MB.lay5 BKg163.out
  obtain ⟨A196, cp197, he_⟩ := Kd.N_slice HN142.out
  subst he_
  go_wp2_with (((with_reducible refine gate_store (t := 28) (p := 5) rfl ?_); (try (refine gate_guard (by rfl) ?_; dsimp only)); refine MW.ev_store #[.int .i64 t134, .bool t135, .int .i64 t136, .string t137, (.slice A196 t138.length cp197)] rfl rfl rfl rfl (cs := #[.int .i64 0, .bool false, .int .i64 0, .string (⟨#[]⟩ : ByteArray), .slice none 0 0]) (ty := 28) BKg163.out [.int .i64 t134, .bool t135, .int .i64 t136, .string t137, (.slice A196 t138.length cp197)] rfl (by kernel_rfl) (by simp) (by simp [Value.oneCell']) rfl ?_; intro w195 hbk hg); replace hbk := Aside0.mk hbk; refine stop_ ?_)
  refine Stop.go ?_
  replace hbk := hbk.out
  replace HF101 := Aside0.mk (Kd.F_grown (ok := (fun k_ => (w.heap.size ≤ k_) ∧ k_ ≠ g10 ∧ k_ ≠ g54 ∧ some k_ ≠ ((.slice A196 t138.length cp197) : Value).ownBlock ∧ k_ ≠ g163)) HF101.out hg (fun k_ hk_ he_ => hk_.2.2.2.2 (Option.some.inj he_)))
  replace HF105 := Aside0.mk (Kd.F_grown (ok := (fun k_ => (w.heap.size ≤ k_) ∧ k_ ≠ g10 ∧ k_ ≠ g54 ∧ some k_ ≠ ((.slice A196 t138.length cp197) : Value).ownBlock ∧ k_ ≠ g163)) HF105.out hg (fun k_ hk_ he_ => hk_.2.2.2.2 (Option.some.inj he_)))
  replace HF132 := Aside0.mk (Kd.F_grown (ok := (fun k_ => (w.heap.size ≤ k_) ∧ k_ ≠ g10 ∧ k_ ≠ g54 ∧ some k_ ≠ ((.slice A196 t138.length cp197) : Value).ownBlock ∧ k_ ≠ g163)) HF132.out hg (fun k_ hk_ he_ => hk_.2.2.2.2 (Option.some.inj he_)))
  replace HN142 := Aside0.mk (Kd.N_grown (ok := (fun k_ => (w.heap.size ≤ k_) ∧ k_ ≠ g10 ∧ k_ ≠ g54 ∧ k_ ≠ g163)) HN142.out hg (fun k_ hk_ he_ => hk_.2.2.2 (Option.some.inj he_)))
  replace BKg10 := Aside0.mk (blk_grown (o := .cells #[.int .i64 t1, .bool t2, .int .i64 t3, .string t4, .slice A23 t5.length cp24] 28 (0, 0)) BKg10.out hg (fun he_ => NEg10_g163.out (Option.some.inj he_)))
  replace BKg54 := Aside0.mk (blk_grown (o := .cells #[.int .i64 t35, .bool t36, .int .i64 t37, .string t38, .slice A77 t39.length cp78] 28 (0, 0)) BKg54.out hg (fun he_ => NEg54_g163.out (Option.some.inj he_)))
  replace HB := Aside0.mk (Below.grown HB.out hg (below_size HB.out) (fun k_ hk_ => by injection hk_ with hk_; rw [← hk_]; exact GEg163.out))
  replace BKg163 := Aside0.mk hbk
  clear hg hbk
  clear hz165 hz166 hz167 hz168 hz169 hf170 hf171 hf172 hf173 hf174 hz175 hz176 hz177 hz178 hz179 hf180 hf181 hf182 hf183 hf184 hz185 hz186 hz187 hz188 hz189 hf190 hf191 hf192 hf193 hf194
  obtain ⟨hz198, hz199, hz200, hz201, hz202, hf203, hf204, hf205, hf206, hf207⟩ := MB.lay5 BKg10.out
  obtain ⟨hz208, hz209, hz210, hz211, hz212, hf213, hf214, hf215, hf216, hf217⟩ := MB.lay5 BKg54.out
  obtain ⟨hz218, hz219, hz220, hz221, hz222, hf223, hf224, hf225, hf226, hf227⟩ := MB.lay5 BKg163.out
  have H := HH.out
  replace H := Option.bind_eq_some_iff.mp H
  obtain ⟨⟨t228, t229⟩, at_, H⟩ := H
  have At230 := Aside0.mk at_
  clear at_
  replace HH := Aside0.mk (show ((prims_AsInt.f k 0 false 0 (⟨#[0, 5]⟩ : ByteArray) ([] : List (S28))).bind fun bt262 => (if t4.toList = ([0, 128] : List UInt8) then (if t6 = 0 then (if t38.toList = ([255] : List UInt8) then (if t40 = 0 then (if t135 = true then (if (t138.length : Int) = 2 then (if t139 = 0 then (if t228 = (-129) then (if t229 = 0 then (if bt262.2 = 160 then ((prims_Is.f t134 true t136 t137 t138 0 16 true).bind fun t328 => (some t328)) else (some false)) else (some false)) else (some false)) else (some false)) else (some false)) else (some false)) else (some false)) else (some false)) else (some false)) else (some false))) = some r from H)
  clear H
  go_wp2_with (((with_reducible refine gate_callee (f := 14) rfl ?_); (try (refine gate_guard (by rfl) ?_; dsimp only)); refine goesL_ (some 28) rfl rfl Try.func14 (by kernel_rfl) rfl #[.agg #[.int .i64 0, .bool false, .int .i64 0, .string (⟨#[255, 127]⟩ : ByteArray), .slice none 0 0]] rfl (by (try simp only [List.map_toArray, List.map_cons, List.map_nil]); first | done | rfl | (simp only [List.length_drop, List.length_take]; rfl)) ?_; (refine (prims_AsInt.calls k (fun k_ => (w.heap.size ≤ k_) ∧ some k_ ≠ ((.slice A196 t138.length cp197) : Value).ownBlock ∧ k_ ≠ g10 ∧ k_ ≠ g54 ∧ k_ ≠ g163) 0 false 0 (⟨#[255, 127]⟩ : ByteArray) _ _ ([] : List (S28)) t228 t229 _ (Kd.F_nil _ _ _) (Nat.le_refl _) At230.out).mono ?_); rintro e w231 ⟨rfl, hb⟩; refine ⟨_, rfl, ?_⟩); refine stop_ ?_)
  refine Stop.go ?_
  replace HF101 := Aside0.mk (Kd.F_below HF101.out hb)
  replace HF105 := Aside0.mk (Kd.F_below HF105.out hb)
  replace HF132 := Aside0.mk (Kd.F_below HF132.out hb)
  replace HN142 := Aside0.mk (Kd.N_below HN142.out hb)
  replace BKg10 := Aside0.mk (blk_below (o := .cells #[.int .i64 t1, .bool t2, .int .i64 t3, .string t4, .slice A23 t5.length cp24] 28 (0, 0)) BKg10.out hb)
  replace BKg54 := Aside0.mk (blk_below (o := .cells #[.int .i64 t35, .bool t36, .int .i64 t37, .string t38, .slice A77 t39.length cp78] 28 (0, 0)) BKg54.out hb)
  replace BKg163 := Aside0.mk (blk_below (o := .cells #[.int .i64 t134, .bool t135, .int .i64 t136, .string t137, (.slice A196 t138.length cp197)] 28 (0, 0)) BKg163.out hb)
  replace HB := Aside0.mk (below_step HB.out hb)
  clear hb
  clear hz198 hz199 hz200 hz201 hz202 hf203 hf204 hf205 hf206 hf207 hz208 hz209 hz210 hz211 hz212 hf213 hf214 hf215 hf216 hf217 hz218 hz219 hz220 hz221 hz222 hf223 hf224 hf225 hf226 hf227
  obtain ⟨hz232, hz233, hz234, hz235, hz236, hf237, hf238, hf239, hf240, hf241⟩ := MB.lay5 BKg10.out
  obtain ⟨hz242, hz243, hz244, hz245, hz246, hf247, hf248, hf249, hf250, hf251⟩ := MB.lay5 BKg54.out
  obtain ⟨hz252, hz253, hz254, hz255, hz256, hf257, hf258, hf259, hf260, hf261⟩ := MB.lay5 BKg163.out
  have H := HH.out
  replace H := Option.bind_eq_some_iff.mp H
  obtain ⟨⟨t262, t263⟩, at_, H⟩ := H
  have At264 := Aside0.mk at_
  clear at_
  replace HH := Aside0.mk (show (if t4.toList = ([0, 128] : List UInt8) then (if t6 = 0 then (if t38.toList = ([255] : List UInt8) then (if t40 = 0 then (if t135 = true then (if (t138.length : Int) = 2 then (if t139 = 0 then (if t228 = (-129) then (if t229 = 0 then (if t263 = 160 then ((prims_Is.f t134 true t136 t137 t138 0 16 true).bind fun t328 => (some t328)) else (some false)) else (some false)) else (some false)) else (some false)) else (some false)) else (some false)) else (some false)) else (some false)) else (some false)) else (some false)) = some r from H)
  clear H
  go_wp2_with (((with_reducible refine gate_callee (f := 14) rfl ?_); (try (refine gate_guard (by rfl) ?_; dsimp only)); refine goesL_ (some 33) rfl rfl Try.func14 (by kernel_rfl) rfl #[.agg #[.int .i64 0, .bool false, .int .i64 0, .string (⟨#[0, 5]⟩ : ByteArray), .slice none 0 0]] rfl (by (try simp only [List.map_toArray, List.map_cons, List.map_nil]); first | done | rfl | (simp only [List.length_drop, List.length_take]; rfl)) ?_; (refine (prims_AsInt.calls k (fun k_ => (w.heap.size ≤ k_) ∧ some k_ ≠ ((.slice A196 t138.length cp197) : Value).ownBlock ∧ k_ ≠ g10 ∧ k_ ≠ g54 ∧ k_ ≠ g163) 0 false 0 (⟨#[0, 5]⟩ : ByteArray) _ _ ([] : List (S28)) t262 t263 _ (Kd.F_nil _ _ _) (Nat.le_refl _) At264.out).mono ?_); rintro e w265 ⟨rfl, hb⟩; refine ⟨_, rfl, ?_⟩); refine stop_ ?_)
  refine Stop.go ?_
  replace HF101 := Aside0.mk (Kd.F_below HF101.out hb)
  replace HF105 := Aside0.mk (Kd.F_below HF105.out hb)
  replace HF132 := Aside0.mk (Kd.F_below HF132.out hb)
  replace HN142 := Aside0.mk (Kd.N_below HN142.out hb)
  replace BKg10 := Aside0.mk (blk_below (o := .cells #[.int .i64 t1, .bool t2, .int .i64 t3, .string t4, .slice A23 t5.length cp24] 28 (0, 0)) BKg10.out hb)
  replace BKg54 := Aside0.mk (blk_below (o := .cells #[.int .i64 t35, .bool t36, .int .i64 t37, .string t38, .slice A77 t39.length cp78] 28 (0, 0)) BKg54.out hb)
  replace BKg163 := Aside0.mk (blk_below (o := .cells #[.int .i64 t134, .bool t135, .int .i64 t136, .string t137, (.slice A196 t138.length cp197)] 28 (0, 0)) BKg163.out hb)
  replace HB := Aside0.mk (below_step HB.out hb)
  clear hb
  clear hz232 hz233 hz234 hz235 hz236 hf237 hf238 hf239 hf240 hf241 hz242 hz243 hz244 hz245 hz246 hf247 hf248 hf249 hf250 hf251 hz252 hz253 hz254 hz255 hz256 hf257 hf258 hf259 hf260 hf261
  obtain ⟨hz266, hz267, hz268, hz269, hz270, hf271, hf272, hf273, hf274, hf275⟩ := MB.lay5 BKg10.out
  obtain ⟨hz276, hz277, hz278, hz279, hz280, hf281, hf282, hf283, hf284, hf285⟩ := MB.lay5 BKg54.out
  obtain ⟨hz286, hz287, hz288, hz289, hz290, hf291, hf292, hf293, hf294, hf295⟩ := MB.lay5 BKg163.out
  by_cases c296 : t4.toList = ([0, 128] : List UInt8)
  · have H := HH.out
    rw [if_pos c296] at H
    replace HH := Aside0.mk H
    clear H
    have hk297 : (t4.toList == ([0, 128] : List UInt8)) = true := beq_iff_eq.mpr c296
    have hk298 : (t4.toList != ([0, 128] : List UInt8)) = false := bne_eq_false_iff_eq.mpr c296
    clear c296
    by_cases c299 : t6 = 0
    · have H := HH.out
      rw [if_pos c299] at H
      replace HH := Aside0.mk H
      clear H
      have hk300 : (t6 == 0) = true := beq_iff_eq.mpr c299
      have hk301 : (t6 != 0) = false := bne_eq_false_iff_eq.mpr c299
      clear c299
      by_cases c302 : t38.toList = ([255] : List UInt8)
      · have H := HH.out
        rw [if_pos c302] at H
        replace HH := Aside0.mk H
        clear H
        have hk303 : (t38.toList == ([255] : List UInt8)) = true := beq_iff_eq.mpr c302
        have hk304 : (t38.toList != ([255] : List UInt8)) = false := bne_eq_false_iff_eq.mpr c302
        clear c302
        by_cases c305 : t40 = 0
        · have H := HH.out
          rw [if_pos c305] at H
          replace HH := Aside0.mk H
          clear H
          have hk306 : (t40 == 0) = true := beq_iff_eq.mpr c305
          have hk307 : (t40 != 0) = false := bne_eq_false_iff_eq.mpr c305
          clear c305
          by_cases c308 : t135 = true
          · have H := HH.out
            rw [if_pos c308] at H
            replace HH := Aside0.mk H
            clear H
            subst c308
            by_cases c309 : (t138.length : Int) = 2
            · have H := HH.out
              rw [if_pos c309] at H
              replace HH := Aside0.mk H
              clear H
              have hk310 : ((t138.length : Int) == 2) = true := beq_iff_eq.mpr c309
              have hk311 : ((t138.length : Int) != 2) = false := bne_eq_false_iff_eq.mpr c309
              clear c309
              by_cases c312 : t139 = 0
              · have H := HH.out
                rw [if_pos c312] at H
                replace HH := Aside0.mk H
                clear H
                have hk313 : (t139 == 0) = true := beq_iff_eq.mpr c312
                have hk314 : (t139 != 0) = false := bne_eq_false_iff_eq.mpr c312
                clear c312
                by_cases c315 : t228 = (-129)
                · have H := HH.out
                  rw [if_pos c315] at H
                  replace HH := Aside0.mk H
                  clear H
                  have hk316 : (t228 == (-129)) = true := beq_iff_eq.mpr c315
                  have hk317 : (t228 != (-129)) = false := bne_eq_false_iff_eq.mpr c315
                  clear c315
                  by_cases c318 : t229 = 0
                  · have H := HH.out
                    rw [if_pos c318] at H
                    replace HH := Aside0.mk H
                    clear H
                    have hk319 : (t229 == 0) = true := beq_iff_eq.mpr c318
                    have hk320 : (t229 != 0) = false := bne_eq_false_iff_eq.mpr c318
                    clear c318
                    by_cases c321 : t263 = 160
                    · have H := HH.out
                      rw [if_pos c321] at H
                      replace HH := Aside0.mk H
                      clear H
                      have hk322 : (t263 == 160) = true := beq_iff_eq.mpr c321
                      have hk323 : (t263 != 160) = false := bne_eq_false_iff_eq.mpr c321
                      clear c321
                      have HL327 := Aside0.mk (Kd.N_reads' HN142.out).2.1
                      have HF326 := Aside0.mk (Kd.N_F HN142.out)
                      clear HN142
                      replace HF101 := Aside0.mk (Kd.F_mono (ok := (fun k_ => (w.heap.size ≤ k_) ∧ k_ ≠ g10 ∧ k_ ≠ g54 ∧ some k_ ≠ ((.slice A196 t138.length cp197) : Value).ownBlock ∧ k_ ≠ g163)) HF101.out (fun k_ hk_ => ⟨hk_.1, hk_.2.1, hk_.2.2.1, hk_.2.2.2.2⟩) : Kd.F k28 _ (fun k_ => (w.heap.size ≤ k_) ∧ k_ ≠ g10 ∧ k_ ≠ g54 ∧ k_ ≠ g163) _ _ _)
                      replace HF105 := Aside0.mk (Kd.F_mono (ok := (fun k_ => (w.heap.size ≤ k_) ∧ k_ ≠ g10 ∧ k_ ≠ g54 ∧ some k_ ≠ ((.slice A196 t138.length cp197) : Value).ownBlock ∧ k_ ≠ g163)) HF105.out (fun k_ hk_ => ⟨hk_.1, hk_.2.1, hk_.2.2.1, hk_.2.2.2.2⟩) : Kd.F k28 _ (fun k_ => (w.heap.size ≤ k_) ∧ k_ ≠ g10 ∧ k_ ≠ g54 ∧ k_ ≠ g163) _ _ _)
                      replace HF132 := Aside0.mk (Kd.F_mono (ok := (fun k_ => (w.heap.size ≤ k_) ∧ k_ ≠ g10 ∧ k_ ≠ g54 ∧ some k_ ≠ ((.slice A196 t138.length cp197) : Value).ownBlock ∧ k_ ≠ g163)) HF132.out (fun k_ hk_ => ⟨hk_.1, hk_.2.1, hk_.2.2.1, hk_.2.2.2.2⟩) : Kd.F k28 _ (fun k_ => (w.heap.size ≤ k_) ∧ k_ ≠ g10 ∧ k_ ≠ g54 ∧ k_ ≠ g163) _ _ _)
                      have H := HH.out
                      replace H := Option.bind_eq_some_iff.mp H
                      obtain ⟨t328, at_, H⟩ := H
                      have At329 := Aside0.mk at_
                      clear at_
                      replace HH := Aside0.mk (show (some t328) = some r from H)
                      clear H
                      go_wp2_with (((with_reducible refine gate_callee (f := 13) rfl ?_); (try (refine gate_guard (by rfl) ?_; dsimp only)); refine goesL_ (some 80) rfl rfl Try.func13 (by kernel_rfl) rfl #[.agg #[.int .i64 t134, .bool true, .int .i64 t136, .string t137, .slice A196 t138.length cp197], .int .i64 0, .int .i64 16, .bool true] rfl (by (try simp only [List.map_toArray, List.map_cons, List.map_nil]); first | done | rfl | (simp only [List.length_drop, List.length_take]; rfl)) ?_; (with_reducible refine (prims_Is.calls (fun k_ => (w.heap.size ≤ k_) ∧ k_ ≠ g10 ∧ k_ ≠ g54 ∧ k_ ≠ g163) t134 true t136 t137 _ _ t138 0 16 true t328 _ (Kd.F_mono (ok := (fun k_ => (w.heap.size ≤ k_) ∧ k_ ≠ g10 ∧ k_ ≠ g54 ∧ k_ ≠ g163)) HF326.out (fun k_ hk_ => ⟨hk_.1, hk_.2.1, hk_.2.2.1, hk_.2.2.2⟩)) HL327.out At329.out).mono ?_); rintro e w330 ⟨rfl, hb⟩; refine ⟨_, rfl, ?_⟩); refine stop_ ?_)
                      refine Stop.go ?_
                      replace HF101 := Aside0.mk (Kd.F_below HF101.out hb)
                      replace HF105 := Aside0.mk (Kd.F_below HF105.out hb)
                      replace HF132 := Aside0.mk (Kd.F_below HF132.out hb)
                      replace HF326 := Aside0.mk (Kd.F_below HF326.out hb)
                      replace BKg10 := Aside0.mk (blk_below (o := .cells #[.int .i64 t1, .bool t2, .int .i64 t3, .string t4, .slice A23 t5.length cp24] 28 (0, 0)) BKg10.out hb)
                      replace BKg54 := Aside0.mk (blk_below (o := .cells #[.int .i64 t35, .bool t36, .int .i64 t37, .string t38, .slice A77 t39.length cp78] 28 (0, 0)) BKg54.out hb)
                      replace BKg163 := Aside0.mk (blk_below (o := .cells #[.int .i64 t134, .bool true, .int .i64 t136, .string t137, .slice A196 t138.length cp197] 28 (0, 0)) BKg163.out hb)
                      replace HB := Aside0.mk (below_step HB.out hb)
                      clear hb
                      clear hz266 hz267 hz268 hz269 hz270 hf271 hf272 hf273 hf274 hf275 hz276 hz277 hz278 hz279 hz280 hf281 hf282 hf283 hf284 hf285 hz286 hz287 hz288 hz289 hz290 hf291 hf292 hf293 hf294 hf295
                      obtain ⟨hz331, hz332, hz333, hz334, hz335, hf336, hf337, hf338, hf339, hf340⟩ := MB.lay5 BKg10.out
                      obtain ⟨hz341, hz342, hz343, hz344, hz345, hf346, hf347, hf348, hf349, hf350⟩ := MB.lay5 BKg54.out
                      obtain ⟨hz351, hz352, hz353, hz354, hz355, hf356, hf357, hf358, hf359, hf360⟩ := MB.lay5 BKg163.out
                      have H := HH.out
                      obtain rfl := Option.some.inj H
                      clear HH
                      go_wp2
                      go_ret
                      exact ⟨by first | rfl | (simp; done) | (simp [*]; done), HB.out⟩
                    · have H := HH.out
                      rw [if_neg c321] at H
                      replace HH := Aside0.mk H
                      clear H
                      have hk361 : (t263 == 160) = false := beq_eq_false_iff_ne.mpr c321
                      have hk362 : (t263 != 160) = true := bne_iff_ne.mpr c321
                      clear c321
                      have H := HH.out
                      obtain rfl := Option.some.inj H
                      clear HH
                      go_wp2
                      go_ret
                      exact ⟨by first | rfl | (simp; done) | (simp [*]; done), HB.out⟩
                  · have H := HH.out
                    rw [if_neg c318] at H
                    replace HH := Aside0.mk H
                    clear H
                    have hk363 : (t229 == 0) = false := beq_eq_false_iff_ne.mpr c318
                    have hk364 : (t229 != 0) = true := bne_iff_ne.mpr c318
                    clear c318
                    have H := HH.out
                    obtain rfl := Option.some.inj H
                    clear HH
                    go_wp2
                    go_ret
                    exact ⟨by first | rfl | (simp; done) | (simp [*]; done), HB.out⟩
                · have H := HH.out
                  rw [if_neg c315] at H
                  replace HH := Aside0.mk H
                  clear H
                  have hk365 : (t228 == (-129)) = false := beq_eq_false_iff_ne.mpr c315
                  have hk366 : (t228 != (-129)) = true := bne_iff_ne.mpr c315
                  clear c315
                  have H := HH.out
                  obtain rfl := Option.some.inj H
                  clear HH
                  go_wp2
                  go_ret
                  exact ⟨by first | rfl | (simp; done) | (simp [*]; done), HB.out⟩
              · have H := HH.out
                rw [if_neg c312] at H
                replace HH := Aside0.mk H
                clear H
                have hk367 : (t139 == 0) = false := beq_eq_false_iff_ne.mpr c312
                have hk368 : (t139 != 0) = true := bne_iff_ne.mpr c312
                clear c312
                have H := HH.out
                obtain rfl := Option.some.inj H
                clear HH
                go_wp2
                go_ret
                exact ⟨by first | rfl | (simp; done) | (simp [*]; done), HB.out⟩
            · have H := HH.out
              rw [if_neg c309] at H
              replace HH := Aside0.mk H
              clear H
              have hk369 : ((t138.length : Int) == 2) = false := beq_eq_false_iff_ne.mpr c309
              have hk370 : ((t138.length : Int) != 2) = true := bne_iff_ne.mpr c309
              clear c309
              have H := HH.out
              obtain rfl := Option.some.inj H
              clear HH
              go_wp2
              go_ret
              exact ⟨by first | rfl | (simp; done) | (simp [*]; done), HB.out⟩
          · have H := HH.out
            rw [if_neg c308] at H
            replace HH := Aside0.mk H
            clear H
            replace c308 := Bool.eq_false_iff.mpr c308
            subst c308
            have H := HH.out
            obtain rfl := Option.some.inj H
            clear HH
            go_wp2
            go_ret
            exact ⟨by first | rfl | (simp; done) | (simp [*]; done), HB.out⟩
        · have H := HH.out
          rw [if_neg c305] at H
          replace HH := Aside0.mk H
          clear H
          have hk371 : (t40 == 0) = false := beq_eq_false_iff_ne.mpr c305
          have hk372 : (t40 != 0) = true := bne_iff_ne.mpr c305
          clear c305
          have H := HH.out
          obtain rfl := Option.some.inj H
          clear HH
          go_wp2
          go_ret
          exact ⟨by first | rfl | (simp; done) | (simp [*]; done), HB.out⟩
      · have H := HH.out
        rw [if_neg c302] at H
        replace HH := Aside0.mk H
        clear H
        have hk373 : (t38.toList == ([255] : List UInt8)) = false := beq_eq_false_iff_ne.mpr c302
        have hk374 : (t38.toList != ([255] : List UInt8)) = true := bne_iff_ne.mpr c302
        clear c302
        have H := HH.out
        obtain rfl := Option.some.inj H
        clear HH
        go_wp2
        go_ret
        exact ⟨by first | rfl | (simp; done) | (simp [*]; done), HB.out⟩
    · have H := HH.out
      rw [if_neg c299] at H
      replace HH := Aside0.mk H
      clear H
      have hk375 : (t6 == 0) = false := beq_eq_false_iff_ne.mpr c299
      have hk376 : (t6 != 0) = true := bne_iff_ne.mpr c299
      clear c299
      have H := HH.out
      obtain rfl := Option.some.inj H
      clear HH
      go_wp2
      go_ret
      exact ⟨by first | rfl | (simp; done) | (simp [*]; done), HB.out⟩
  · have H := HH.out
    rw [if_neg c296] at H
    replace HH := Aside0.mk H
    clear H
    have hk377 : (t4.toList == ([0, 128] : List UInt8)) = false := beq_eq_false_iff_ne.mpr c296
    have hk378 : (t4.toList != ([0, 128] : List UInt8)) = true := bne_iff_ne.mpr c296
    clear c296
    have H := HH.out
    obtain rfl := Option.some.inj H
    clear HH
    go_wp2
    go_ret
    exact ⟨by first | rfl | (simp; done) | (simp [*]; done), HB.out⟩

end Go.Proofs.Ytliackbiljhioaa.GA
