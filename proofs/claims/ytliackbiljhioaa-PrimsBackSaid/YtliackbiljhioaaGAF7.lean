-- written by wip/gen.py, a program of this session
import Derived.Test.YtliackbiljhioaaGA0
import Derived.Test.YtliackbiljhioaaGAF13
import Derived.Test.YtliackbiljhioaaGAF14
import Derived.Test.YtliackbiljhioaaGAF15
import Derived.Test.YtliackbiljhioaaGAF17
import Derived.Test.YtliackbiljhioaaGAF22
import Derived.Test.YtliackbiljhioaaGAF27
import Derived.Test.YtliackbiljhioaaGAF28
import Derived.Test.YtliackbiljhioaaGAF8
namespace Go.Proofs.Ytliackbiljhioaa.GA
open Go.RowKit Go.Proofs.Ytliackbiljhioaa Go.Proofs.Ytliackbiljhioaa.MW Go.Proofs.YtliackbiljhioaaW.PrintWords Go.Proofs.YtliackbiljhioaaW.PrintLast Go.Proofs.YtliackbiljhioaaW.PrintMore
attribute [local go_sem] max2_int min2_int max_two min_two
set_option linter.unusedVariables false
set_option linter.unusedSimpArgs false


/-! ### toponymlaw16_PrimsBack: function 7 -/
def toponymlaw16_PrimsBack.f (k : Nat) (a0_0 : Int) (a0_1 : Int) (a1 : Int) (a2 : Bool) : Option (Bool) := (prims_Int.f k a0_0 a0_1 a1).bind fun bt7 => (if bt7.2.2.2.2.2 = 0 then ((prims_AsInt.f k bt7.1 bt7.2.1 bt7.2.2.1 bt7.2.2.2.1 bt7.2.2.2.2.1).bind fun bt60 => ((ber_Encode.f k [(⟨bt7.1, bt7.2.1, bt7.2.2.1, bt7.2.2.2.1, bt7.2.2.2.2.1⟩ : S28)]).bind fun bt99 => ((ber_Decode.f k bt99.1 0).bind fun bt117 => ((prims_AsInt.f k bt117.1 bt117.2.1 bt117.2.2.1 bt117.2.2.2.1 bt117.2.2.2.2.1).bind fun bt198 => (if bt60.1 = a1 then (if bt60.2 = 0 then (if bt99.2 = 0 then (if bt117.2.2.2.2.2.1 = (bt99.1.size : Int) then (if bt117.2.2.2.2.2.2 = 0 then (if bt198.1 = a1 then (if bt198.2 = 0 then (if (bt7.2.2.2.1.size : Int) > 4 then (some false) else ((prims_Bool.f a0_0 a0_1 a2).bind fun bt252 => (if bt252.2.2.2.2.2 = 0 then ((prims_AsBool.f bt252.1 bt252.2.1 bt252.2.2.1 bt252.2.2.2.1 bt252.2.2.2.2.1).bind fun bt365 => (if (bt365.1 == a2) = true then (if bt365.2 = 0 then ((prims_Is.f bt252.1 bt252.2.1 bt252.2.2.1 bt252.2.2.2.1 bt252.2.2.2.2.1 a0_0 a0_1 false).bind fun t410 => (if t410 = true then ((toponymlaw16_awake.f k ).bind fun t448 => (some t448)) else (some false))) else (some false)) else (some false))) else (if bt252.2.2.2.2.2 = 2 then ((toponymlaw16_awake.f k ).bind fun t496 => (some t496)) else (some false))))) else (some false)) else (some false)) else (some false)) else (some false)) else (some false)) else (some false)) else (some false)))))) else ((prims_Bool.f a0_0 a0_1 a2).bind fun bt551 => (if bt551.2.2.2.2.2 = 0 then ((prims_AsBool.f bt551.1 bt551.2.1 bt551.2.2.1 bt551.2.2.2.1 bt551.2.2.2.2.1).bind fun bt634 => (if (bt634.1 == a2) = true then (if bt634.2 = 0 then ((prims_Is.f bt551.1 bt551.2.1 bt551.2.2.1 bt551.2.2.2.1 bt551.2.2.2.2.1 a0_0 a0_1 false).bind fun t669 => (if t669 = true then ((toponymlaw16_awake.f k ).bind fun t697 => (some t697)) else (some false))) else (some false)) else (some false))) else (if bt551.2.2.2.2.2 = 2 then ((toponymlaw16_awake.f k ).bind fun t735 => (some t735)) else (some false)))))
theorem toponymlaw16_PrimsBack.mono : ∀ a0_ a1_ a2_ a3_ k, LeO (toponymlaw16_PrimsBack.f k a0_ a1_ a2_ a3_) (toponymlaw16_PrimsBack.f (k + 1) a0_ a1_ a2_ a3_) := by
  intro a0_ a1_ a2_ a3_ k
  unfold toponymlaw16_PrimsBack.f
  repeat' first
      | (with_reducible exact ber_Decode.mono _ _ _)
      | (with_reducible exact ber_Encode.mono _ _)
      | (with_reducible exact prims_AsInt.mono _ _ _ _ _ _)
      | (with_reducible exact prims_Int.mono _ _ _ _)
      | (with_reducible exact toponymlaw16_awake.mono _)
      | (with_reducible exact LeO.refl _)
      | (with_reducible exact LeO.none _)
      | (with_reducible refine LeO.ite ?_ ?_)
      | (with_reducible refine LeO.bind ?_ (fun _ => ?_))
      | exact ber_Decode.mono _ _ _
      | exact ber_Encode.mono _ _
      | exact prims_AsInt.mono _ _ _ _ _ _
      | exact prims_Int.mono _ _ _ _
      | exact toponymlaw16_awake.mono _
      | exact LeO.none _
      | refine LeO.ite ?_ ?_
      | refine LeO.bind ?_ (fun _ => ?_)
set_option maxHeartbeats 8000000 in
set_option maxRecDepth 100000 in
theorem toponymlaw16_PrimsBack.calls (k : Nat) (a0_0 : Int) (a0_1 : Int) (a1 : Int) (a2 : Bool) (r : Bool) (w : World) (h : toponymlaw16_PrimsBack.f k a0_0 a0_1 a1 a2 = some r) :
    Calls Try.prog 7 #[.agg #[.int .i64 a0_0, .int .i64 a0_1], .int .i64 a1, .bool a2] w (fun e w' => e = .returned (.bool r) ∧ Below w.heap.size w w') := by
  have HH := Aside0.mk (show ((prims_Int.f k a0_0 a0_1 a1).bind fun bt7 => (if bt7.2.2.2.2.2 = 0 then ((prims_AsInt.f k bt7.1 bt7.2.1 bt7.2.2.1 bt7.2.2.2.1 bt7.2.2.2.2.1).bind fun bt60 => ((ber_Encode.f k [(⟨bt7.1, bt7.2.1, bt7.2.2.1, bt7.2.2.2.1, bt7.2.2.2.2.1⟩ : S28)]).bind fun bt99 => ((ber_Decode.f k bt99.1 0).bind fun bt117 => ((prims_AsInt.f k bt117.1 bt117.2.1 bt117.2.2.1 bt117.2.2.2.1 bt117.2.2.2.2.1).bind fun bt198 => (if bt60.1 = a1 then (if bt60.2 = 0 then (if bt99.2 = 0 then (if bt117.2.2.2.2.2.1 = (bt99.1.size : Int) then (if bt117.2.2.2.2.2.2 = 0 then (if bt198.1 = a1 then (if bt198.2 = 0 then (if (bt7.2.2.2.1.size : Int) > 4 then (some false) else ((prims_Bool.f a0_0 a0_1 a2).bind fun bt252 => (if bt252.2.2.2.2.2 = 0 then ((prims_AsBool.f bt252.1 bt252.2.1 bt252.2.2.1 bt252.2.2.2.1 bt252.2.2.2.2.1).bind fun bt365 => (if (bt365.1 == a2) = true then (if bt365.2 = 0 then ((prims_Is.f bt252.1 bt252.2.1 bt252.2.2.1 bt252.2.2.2.1 bt252.2.2.2.2.1 a0_0 a0_1 false).bind fun t410 => (if t410 = true then ((toponymlaw16_awake.f k ).bind fun t448 => (some t448)) else (some false))) else (some false)) else (some false))) else (if bt252.2.2.2.2.2 = 2 then ((toponymlaw16_awake.f k ).bind fun t496 => (some t496)) else (some false))))) else (some false)) else (some false)) else (some false)) else (some false)) else (some false)) else (some false)) else (some false)))))) else ((prims_Bool.f a0_0 a0_1 a2).bind fun bt551 => (if bt551.2.2.2.2.2 = 0 then ((prims_AsBool.f bt551.1 bt551.2.1 bt551.2.2.1 bt551.2.2.2.1 bt551.2.2.2.2.1).bind fun bt634 => (if (bt634.1 == a2) = true then (if bt634.2 = 0 then ((prims_Is.f bt551.1 bt551.2.1 bt551.2.2.1 bt551.2.2.2.1 bt551.2.2.2.2.1 a0_0 a0_1 false).bind fun t669 => (if t669 = true then ((toponymlaw16_awake.f k ).bind fun t697 => (some t697)) else (some false))) else (some false)) else (some false))) else (if bt551.2.2.2.2.2 = 2 then ((toponymlaw16_awake.f k ).bind fun t735 => (some t735)) else (some false)))))) = some r from h)
  clear h
  have HB := Aside0.mk (Below.refl w.heap.size w)
  have hu23 := Try.underlying23
  have hu28 := Try.underlying28
  go_enter Try.func7, Try.ntmps7
  go_wp2_with (((with_reducible refine gate_dst (N := 3) rfl ?_); (try (refine gate_guard (by rfl) ?_; dsimp only)); refine box_event ?hg (N := 3) ?hd (cs := #[.int .i64 a0_0, .int .i64 a0_1]) (t := 23) ?hr ?_; (case hd => rfl); (case hg => rfl); (case hr => first | (go_simp; done) | (go_simp; rfl)); intro g1 hg w2 hbox hb); replace hg := Aside0.mk hg; replace hbox := Aside0.mk hbox; refine stop_ ?_)
  refine Stop.go ?_
  replace hg := hg.out
  replace hbox := hbox.out
  have GEg1 := Aside0.mk (by rw [hg]; exact (below_size HB.out) : w.heap.size ≤ g1)
  replace HB := Aside0.mk (below_step HB.out hb)
  have BKg1 := Aside0.mk hbox
  clear hg hbox hb
  obtain ⟨hz3, hz4, hf5, hf6⟩ := MB.lay2 BKg1.out
  have H := HH.out
  replace H := Option.bind_eq_some_iff.mp H
  obtain ⟨⟨t7, t8, t9, t10, t11, t12⟩, at_, H⟩ := H
  have At13 := Aside0.mk at_
  clear at_
  replace HH := Aside0.mk (show (if t12 = 0 then ((prims_AsInt.f k t7 t8 t9 t10 t11).bind fun bt60 => ((ber_Encode.f k [(⟨t7, t8, t9, t10, t11⟩ : S28)]).bind fun bt99 => ((ber_Decode.f k bt99.1 0).bind fun bt117 => ((prims_AsInt.f k bt117.1 bt117.2.1 bt117.2.2.1 bt117.2.2.2.1 bt117.2.2.2.2.1).bind fun bt198 => (if bt60.1 = a1 then (if bt60.2 = 0 then (if bt99.2 = 0 then (if bt117.2.2.2.2.2.1 = (bt99.1.size : Int) then (if bt117.2.2.2.2.2.2 = 0 then (if bt198.1 = a1 then (if bt198.2 = 0 then (if (t10.size : Int) > 4 then (some false) else ((prims_Bool.f a0_0 a0_1 a2).bind fun bt252 => (if bt252.2.2.2.2.2 = 0 then ((prims_AsBool.f bt252.1 bt252.2.1 bt252.2.2.1 bt252.2.2.2.1 bt252.2.2.2.2.1).bind fun bt365 => (if (bt365.1 == a2) = true then (if bt365.2 = 0 then ((prims_Is.f bt252.1 bt252.2.1 bt252.2.2.1 bt252.2.2.2.1 bt252.2.2.2.2.1 a0_0 a0_1 false).bind fun t410 => (if t410 = true then ((toponymlaw16_awake.f k ).bind fun t448 => (some t448)) else (some false))) else (some false)) else (some false))) else (if bt252.2.2.2.2.2 = 2 then ((toponymlaw16_awake.f k ).bind fun t496 => (some t496)) else (some false))))) else (some false)) else (some false)) else (some false)) else (some false)) else (some false)) else (some false)) else (some false)))))) else ((prims_Bool.f a0_0 a0_1 a2).bind fun bt551 => (if bt551.2.2.2.2.2 = 0 then ((prims_AsBool.f bt551.1 bt551.2.1 bt551.2.2.1 bt551.2.2.2.1 bt551.2.2.2.2.1).bind fun bt634 => (if (bt634.1 == a2) = true then (if bt634.2 = 0 then ((prims_Is.f bt551.1 bt551.2.1 bt551.2.2.1 bt551.2.2.2.1 bt551.2.2.2.2.1 a0_0 a0_1 false).bind fun t669 => (if t669 = true then ((toponymlaw16_awake.f k ).bind fun t697 => (some t697)) else (some false))) else (some false)) else (some false))) else (if bt551.2.2.2.2.2 = 2 then ((toponymlaw16_awake.f k ).bind fun t735 => (some t735)) else (some false))))) = some r from H)
  clear H
  go_wp2_with (((with_reducible refine gate_callee (f := 15) rfl ?_); (try (refine gate_guard (by rfl) ?_; dsimp only)); refine goesL_ (some 27) rfl rfl Try.func15 (by kernel_rfl) rfl #[.int .i64 a0_0, .int .i64 a0_1, .int .i64 a1] rfl (by (try simp only [List.map_toArray, List.map_cons, List.map_nil]); first | done | rfl | (simp only [List.length_drop, List.length_take]; rfl)) ?_; (with_reducible refine (prims_Int.calls k  a0_0 a0_1 a1 t7 t8 t9 t10 t11 t12 _  At13.out).mono ?_); rintro e w14 ⟨v15, rfl, hn15, hb⟩; refine ⟨_, rfl, ?_⟩); refine stop_ ?_)
  refine Stop.go ?_
  have hba := Kd.N_base hn15
  have HN15 := Aside0.mk (Kd.N_mono (Kd.N_lower hn15 (below_size HB.out)) (fun k_ h_ => ⟨(Nat.le_trans (below_size HB.out) h_), Kd.freshB (o := .cells #[.int .i64 a0_0, .int .i64 a0_1] 23 (0, 0)) BKg1.out k_ h_⟩) : Kd.N k28 28 w14 w.heap.size (fun k_ => (w.heap.size ≤ k_) ∧ k_ ≠ g1) v15 t11)
  replace BKg1 := Aside0.mk (blk_below (o := .cells #[.int .i64 a0_0, .int .i64 a0_1] 23 (0, 0)) BKg1.out hb)
  replace HB := Aside0.mk (below_step HB.out hb)
  clear hn15 hba hb
  clear hz3 hz4 hf5 hf6
  obtain ⟨hz16, hz17, hf18, hf19⟩ := MB.lay2 BKg1.out
  go_wp2_with (((with_reducible refine gate_dst (N := 7) rfl ?_); (try (refine gate_guard (by rfl) ?_; dsimp only)); refine box_event ?hg (N := 7) ?hd (cs := #[.int .i64 0, .bool false, .int .i64 0, .string (⟨#[]⟩ : ByteArray), .slice none 0 0]) (t := 28) ?hr ?_; (case hd => rfl); (case hg => rfl); (case hr => first | (go_simp; done) | (go_simp; rfl)); intro g20 hg w21 hbox hb); replace hg := Aside0.mk hg; replace hbox := Aside0.mk hbox; refine stop_ ?_)
  refine Stop.go ?_
  replace hg := hg.out
  replace hbox := hbox.out
  have GEg20 := Aside0.mk (by rw [hg]; exact (below_size HB.out) : w.heap.size ≤ g20)
  replace HN15 := Aside0.mk (Kd.N_elderB HN15.out g20 (Nat.le_of_eq hg.symm))
  replace HN15 := Aside0.mk (Kd.N_mono HN15.out (fun k_ hk_ => ⟨hk_.1.1, hk_.1.2, hk_.2⟩) : Kd.N k28 _ _ _ (fun k_ => (w.heap.size ≤ k_) ∧ k_ ≠ g1 ∧ k_ ≠ g20) _ _)
  have NEg1_g20 := Aside0.mk (by rw [hg]; exact Nat.ne_of_lt (blk_lt (o := .cells #[.int .i64 a0_0, .int .i64 a0_1] 23 (0, 0)) BKg1.out) : g1 ≠ g20)
  have NEg20_g1 := Aside0.mk (Ne.symm NEg1_g20.out)
  replace HN15 := Aside0.mk (Kd.N_below HN15.out hb)
  replace BKg1 := Aside0.mk (blk_below (o := .cells #[.int .i64 a0_0, .int .i64 a0_1] 23 (0, 0)) BKg1.out hb)
  replace HB := Aside0.mk (below_step HB.out hb)
  have BKg20 := Aside0.mk hbox
  clear hg hbox hb
  clear hz16 hz17 hf18 hf19
  obtain ⟨hz22, hz23, hf24, hf25⟩ := MB.lay2 BKg1.out
  obtain ⟨hz26, hz27, hz28, hz29, hz30, hf31, hf32, hf33, hf34, hf35⟩ := MB.lay5 BKg20.out
  obtain ⟨A37, cp38, he_⟩ := Kd.N_slice HN15.out
  subst he_
  go_wp2_with (((with_reducible refine gate_store (t := 28) (p := 7) rfl ?_); (try (refine gate_guard (by rfl) ?_; dsimp only)); refine MW.ev_store #[.int .i64 t7, .bool t8, .int .i64 t9, .string t10, (.slice A37 t11.length cp38)] rfl rfl rfl rfl (cs := #[.int .i64 0, .bool false, .int .i64 0, .string (⟨#[]⟩ : ByteArray), .slice none 0 0]) (ty := 28) BKg20.out [.int .i64 t7, .bool t8, .int .i64 t9, .string t10, (.slice A37 t11.length cp38)] rfl (by kernel_rfl) (by simp) (by simp [Value.oneCell']) rfl ?_; intro w36 hbk hg); replace hbk := Aside0.mk hbk; refine stop_ ?_)
  refine Stop.go ?_
  replace hbk := hbk.out
  replace HN15 := Aside0.mk (Kd.N_grown (ok := (fun k_ => (w.heap.size ≤ k_) ∧ k_ ≠ g1 ∧ k_ ≠ g20)) HN15.out hg (fun k_ hk_ he_ => hk_.2.2 (Option.some.inj he_)))
  replace BKg1 := Aside0.mk (blk_grown (o := .cells #[.int .i64 a0_0, .int .i64 a0_1] 23 (0, 0)) BKg1.out hg (fun he_ => NEg1_g20.out (Option.some.inj he_)))
  replace HB := Aside0.mk (Below.grown HB.out hg (below_size HB.out) (fun k_ hk_ => by injection hk_ with hk_; rw [← hk_]; exact GEg20.out))
  replace BKg20 := Aside0.mk hbk
  clear hg hbk
  clear hz22 hz23 hf24 hf25 hz26 hz27 hz28 hz29 hz30 hf31 hf32 hf33 hf34 hf35
  obtain ⟨hz39, hz40, hf41, hf42⟩ := MB.lay2 BKg1.out
  obtain ⟨hz43, hz44, hz45, hz46, hz47, hf48, hf49, hf50, hf51, hf52⟩ := MB.lay5 BKg20.out
  by_cases c53 : t12 = 0
  · have H := HH.out
    rw [if_pos c53] at H
    replace HH := Aside0.mk H
    clear H
    have hk54 : (t12 == 0) = true := beq_iff_eq.mpr c53
    have hk55 : (t12 != 0) = false := bne_eq_false_iff_eq.mpr c53
    clear c53
    have HL59 := Aside0.mk (Kd.N_reads' HN15.out).2.1
    have HF58 := Aside0.mk (Kd.N_F HN15.out)
    clear HN15
    have H := HH.out
    replace H := Option.bind_eq_some_iff.mp H
    obtain ⟨⟨t60, t61⟩, at_, H⟩ := H
    have At62 := Aside0.mk at_
    clear at_
    replace HH := Aside0.mk (show ((ber_Encode.f k [(⟨t7, t8, t9, t10, t11⟩ : S28)]).bind fun bt99 => ((ber_Decode.f k bt99.1 0).bind fun bt117 => ((prims_AsInt.f k bt117.1 bt117.2.1 bt117.2.2.1 bt117.2.2.2.1 bt117.2.2.2.2.1).bind fun bt198 => (if t60 = a1 then (if t61 = 0 then (if bt99.2 = 0 then (if bt117.2.2.2.2.2.1 = (bt99.1.size : Int) then (if bt117.2.2.2.2.2.2 = 0 then (if bt198.1 = a1 then (if bt198.2 = 0 then (if (t10.size : Int) > 4 then (some false) else ((prims_Bool.f a0_0 a0_1 a2).bind fun bt252 => (if bt252.2.2.2.2.2 = 0 then ((prims_AsBool.f bt252.1 bt252.2.1 bt252.2.2.1 bt252.2.2.2.1 bt252.2.2.2.2.1).bind fun bt365 => (if (bt365.1 == a2) = true then (if bt365.2 = 0 then ((prims_Is.f bt252.1 bt252.2.1 bt252.2.2.1 bt252.2.2.2.1 bt252.2.2.2.2.1 a0_0 a0_1 false).bind fun t410 => (if t410 = true then ((toponymlaw16_awake.f k ).bind fun t448 => (some t448)) else (some false))) else (some false)) else (some false))) else (if bt252.2.2.2.2.2 = 2 then ((toponymlaw16_awake.f k ).bind fun t496 => (some t496)) else (some false))))) else (some false)) else (some false)) else (some false)) else (some false)) else (some false)) else (some false)) else (some false))))) = some r from H)
    clear H
    go_wp2_with (((with_reducible refine gate_callee (f := 14) rfl ?_); (try (refine gate_guard (by rfl) ?_; dsimp only)); refine goesL_ (some 34) rfl rfl Try.func14 (by kernel_rfl) rfl #[.agg #[.int .i64 t7, .bool t8, .int .i64 t9, .string t10, .slice A37 t11.length cp38]] rfl (by (try simp only [List.map_toArray, List.map_cons, List.map_nil]); first | done | rfl | (simp only [List.length_drop, List.length_take]; rfl)) ?_; (with_reducible refine (prims_AsInt.calls k (fun k_ => (w.heap.size ≤ k_) ∧ k_ ≠ g1 ∧ k_ ≠ g20) t7 t8 t9 t10 _ _ t11 t60 t61 _ (Kd.F_mono (ok := (fun k_ => (w.heap.size ≤ k_) ∧ k_ ≠ g1 ∧ k_ ≠ g20)) HF58.out (fun k_ hk_ => ⟨hk_.1, hk_.2.1, hk_.2.2⟩)) HL59.out At62.out).mono ?_); rintro e w63 ⟨rfl, hb⟩; refine ⟨_, rfl, ?_⟩); refine stop_ ?_)
    refine Stop.go ?_
    replace HF58 := Aside0.mk (Kd.F_below HF58.out hb)
    replace BKg1 := Aside0.mk (blk_below (o := .cells #[.int .i64 a0_0, .int .i64 a0_1] 23 (0, 0)) BKg1.out hb)
    replace BKg20 := Aside0.mk (blk_below (o := .cells #[.int .i64 t7, .bool t8, .int .i64 t9, .string t10, .slice A37 t11.length cp38] 28 (0, 0)) BKg20.out hb)
    replace HB := Aside0.mk (below_step HB.out hb)
    clear hb
    clear hz39 hz40 hf41 hf42 hz43 hz44 hz45 hz46 hz47 hf48 hf49 hf50 hf51 hf52
    obtain ⟨hz64, hz65, hf66, hf67⟩ := MB.lay2 BKg1.out
    obtain ⟨hz68, hz69, hz70, hz71, hz72, hf73, hf74, hf75, hf76, hf77⟩ := MB.lay5 BKg20.out
    go_wp2_with (((with_reducible refine gate_dst (N := 39) rfl ?_); (try (refine gate_guard (by rfl) ?_; dsimp only)); refine Kd.N_lit k28 w.heap.size 28 rfl (N' := 39) rfl (xs := [(⟨t7, t8, t9, t10, t11⟩ : S28)]) (inner := [.int .i64 t7, .bool t8, .int .i64 t9, .string t10, .slice A37 t11.length cp38]) (ok := (fun k_ => (w.heap.size ≤ k_) ∧ k_ ≠ g1 ∧ k_ ≠ g20)) (okp := (fun k_ => (w.heap.size ≤ k_) ∧ k_ ≠ g1 ∧ k_ ≠ g20)) ?hr ?hp (fun _ hk_ => hk_) ?hf HB.out (below_size HB.out) (by first | simp | decide) ?_; (case hr => first | (go_simp; done) | (go_simp; rfl)); (case hp => exact (Reps.c5 (k28_mkF _ _ (⟨t7, t8, t9, t10, t11⟩ : S28) HL59.out (Kd.F_mono (ok := (fun k_ => (w.heap.size ≤ k_) ∧ k_ ≠ g1 ∧ k_ ≠ g20)) HF58.out (fun k_ hk_ => ⟨hk_.1, hk_.2.1, hk_.2.2⟩))) (Reps.none _ _))); (case hf => exact (show ∀ k_, w63.heap.size ≤ k_ → (fun k_ => (w.heap.size ≤ k_) ∧ k_ ≠ g1 ∧ k_ ≠ g20) k_ from fun k_ h_ => ⟨(Nat.le_trans (below_size HB.out) h_), Kd.freshB (o := .cells #[.int .i64 a0_0, .int .i64 a0_1] 23 (0, 0)) BKg1.out k_ h_, Kd.freshB (o := .cells #[.int .i64 t7, .bool t8, .int .i64 t9, .string t10, .slice A37 t11.length cp38] 28 (0, 0)) BKg20.out k_ h_⟩) _ (Nat.le_refl _)); intro v78 w79 hn1 hb1 hg1 hat1); replace hat1 := Aside0.mk hat1; refine stop_ ?_)
    refine Stop.go ?_
    replace hat1 := hat1.out
    have hbe := MW.grown_below hg1
    have hba := MW.base_of hat1
    replace HF58 := Aside0.mk (Kd.F_mono (Kd.F_elder' (ok := (fun k_ => (w.heap.size ≤ k_) ∧ k_ ≠ g1 ∧ k_ ≠ g20)) HF58.out hba hbe) (fun k_ hk_ => ⟨hk_.1.1, hk_.1.2.1, hk_.1.2.2, hk_.2⟩) : Kd.F k28 _ (fun k_ => (w.heap.size ≤ k_) ∧ k_ ≠ g1 ∧ k_ ≠ g20 ∧ some k_ ≠ (v78 : Value).ownBlock) _ _ _)
    replace BKg1 := Aside0.mk (blk_below (o := .cells #[.int .i64 a0_0, .int .i64 a0_1] 23 (0, 0)) BKg1.out hbe)
    replace BKg20 := Aside0.mk (blk_below (o := .cells #[.int .i64 t7, .bool t8, .int .i64 t9, .string t10, .slice A37 t11.length cp38] 28 (0, 0)) BKg20.out hbe)
    replace HB := Aside0.mk hb1
    have HN80 := Aside0.mk hn1
    clear hn1 hb1 hg1 hat1 hbe hba
    clear hz64 hz65 hf66 hf67 hz68 hz69 hz70 hz71 hz72 hf73 hf74 hf75 hf76 hf77
    obtain ⟨hz81, hz82, hf83, hf84⟩ := MB.lay2 BKg1.out
    obtain ⟨hz85, hz86, hz87, hz88, hz89, hf90, hf91, hf92, hf93, hf94⟩ := MB.lay5 BKg20.out
    obtain ⟨A95, cp96, he_⟩ := Kd.N_slice HN80.out
    subst he_
    have HL98 := Aside0.mk (Kd.N_reads' HN80.out).2.1
    have HF97 := Aside0.mk (Kd.N_F HN80.out)
    clear HN80
    replace HF58 := Aside0.mk (Kd.F_mono (ok := (fun k_ => (w.heap.size ≤ k_) ∧ k_ ≠ g1 ∧ k_ ≠ g20 ∧ some k_ ≠ ((.slice A95 [(⟨t7, t8, t9, t10, t11⟩ : S28)].length cp96) : Value).ownBlock)) HF58.out (fun k_ hk_ => ⟨hk_.1, hk_.2.1, hk_.2.2.1⟩) : Kd.F k28 _ (fun k_ => (w.heap.size ≤ k_) ∧ k_ ≠ g1 ∧ k_ ≠ g20) _ _ _)
    have H := HH.out
    replace H := Option.bind_eq_some_iff.mp H
    obtain ⟨⟨t99, t100⟩, at_, H⟩ := H
    have At101 := Aside0.mk at_
    clear at_
    replace HH := Aside0.mk (show ((ber_Decode.f k t99 0).bind fun bt117 => ((prims_AsInt.f k bt117.1 bt117.2.1 bt117.2.2.1 bt117.2.2.2.1 bt117.2.2.2.2.1).bind fun bt198 => (if t60 = a1 then (if t61 = 0 then (if t100 = 0 then (if bt117.2.2.2.2.2.1 = (t99.size : Int) then (if bt117.2.2.2.2.2.2 = 0 then (if bt198.1 = a1 then (if bt198.2 = 0 then (if (t10.size : Int) > 4 then (some false) else ((prims_Bool.f a0_0 a0_1 a2).bind fun bt252 => (if bt252.2.2.2.2.2 = 0 then ((prims_AsBool.f bt252.1 bt252.2.1 bt252.2.2.1 bt252.2.2.2.1 bt252.2.2.2.2.1).bind fun bt365 => (if (bt365.1 == a2) = true then (if bt365.2 = 0 then ((prims_Is.f bt252.1 bt252.2.1 bt252.2.2.1 bt252.2.2.2.1 bt252.2.2.2.2.1 a0_0 a0_1 false).bind fun t410 => (if t410 = true then ((toponymlaw16_awake.f k ).bind fun t448 => (some t448)) else (some false))) else (some false)) else (some false))) else (if bt252.2.2.2.2.2 = 2 then ((toponymlaw16_awake.f k ).bind fun t496 => (some t496)) else (some false))))) else (some false)) else (some false)) else (some false)) else (some false)) else (some false)) else (some false)) else (some false)))) = some r from H)
    clear H
    go_wp2_with (((with_reducible refine gate_callee (f := 27) rfl ?_); (try (refine gate_guard (by rfl) ?_; dsimp only)); refine goesL_ (some 40) rfl rfl Try.func27 (by kernel_rfl) rfl #[.slice A95 [(⟨t7, t8, t9, t10, t11⟩ : S28)].length cp96] rfl (by (try simp only [List.map_toArray, List.map_cons, List.map_nil]); first | done | rfl | (simp only [List.length_drop, List.length_take]; rfl)) ?_; (with_reducible refine (ber_Encode.calls k (fun k_ => (w.heap.size ≤ k_) ∧ k_ ≠ g1 ∧ k_ ≠ g20) _ _ [(⟨t7, t8, t9, t10, t11⟩ : S28)] t99 t100 _ (Kd.F_mono (ok := (fun k_ => (w.heap.size ≤ k_) ∧ k_ ≠ g1 ∧ k_ ≠ g20)) HF97.out (fun k_ hk_ => ⟨hk_.1, hk_.2.1, hk_.2.2⟩)) HL98.out At101.out).mono ?_); rintro e w102 ⟨rfl, hb⟩; refine ⟨_, rfl, ?_⟩); refine stop_ ?_)
    refine Stop.go ?_
    replace HF58 := Aside0.mk (Kd.F_below HF58.out hb)
    replace HF97 := Aside0.mk (Kd.F_below HF97.out hb)
    replace BKg1 := Aside0.mk (blk_below (o := .cells #[.int .i64 a0_0, .int .i64 a0_1] 23 (0, 0)) BKg1.out hb)
    replace BKg20 := Aside0.mk (blk_below (o := .cells #[.int .i64 t7, .bool t8, .int .i64 t9, .string t10, .slice A37 t11.length cp38] 28 (0, 0)) BKg20.out hb)
    replace HB := Aside0.mk (below_step HB.out hb)
    clear hb
    clear hz81 hz82 hf83 hf84 hz85 hz86 hz87 hz88 hz89 hf90 hf91 hf92 hf93 hf94
    obtain ⟨hz103, hz104, hf105, hf106⟩ := MB.lay2 BKg1.out
    obtain ⟨hz107, hz108, hz109, hz110, hz111, hf112, hf113, hf114, hf115, hf116⟩ := MB.lay5 BKg20.out
    have H := HH.out
    replace H := Option.bind_eq_some_iff.mp H
    obtain ⟨⟨t117, t118, t119, t120, t121, t122, t123⟩, at_, H⟩ := H
    have At124 := Aside0.mk at_
    clear at_
    replace HH := Aside0.mk (show ((prims_AsInt.f k t117 t118 t119 t120 t121).bind fun bt198 => (if t60 = a1 then (if t61 = 0 then (if t100 = 0 then (if t122 = (t99.size : Int) then (if t123 = 0 then (if bt198.1 = a1 then (if bt198.2 = 0 then (if (t10.size : Int) > 4 then (some false) else ((prims_Bool.f a0_0 a0_1 a2).bind fun bt252 => (if bt252.2.2.2.2.2 = 0 then ((prims_AsBool.f bt252.1 bt252.2.1 bt252.2.2.1 bt252.2.2.2.1 bt252.2.2.2.2.1).bind fun bt365 => (if (bt365.1 == a2) = true then (if bt365.2 = 0 then ((prims_Is.f bt252.1 bt252.2.1 bt252.2.2.1 bt252.2.2.2.1 bt252.2.2.2.2.1 a0_0 a0_1 false).bind fun t410 => (if t410 = true then ((toponymlaw16_awake.f k ).bind fun t448 => (some t448)) else (some false))) else (some false)) else (some false))) else (if bt252.2.2.2.2.2 = 2 then ((toponymlaw16_awake.f k ).bind fun t496 => (some t496)) else (some false))))) else (some false)) else (some false)) else (some false)) else (some false)) else (some false)) else (some false)) else (some false))) = some r from H)
    clear H
    go_wp2_with (((with_reducible refine gate_callee (f := 28) rfl ?_); (try (refine gate_guard (by rfl) ?_; dsimp only)); refine goesL_ (some 45) rfl rfl Try.func28 (by kernel_rfl) rfl #[.string t99, .int .i64 0] rfl (by (try simp only [List.map_toArray, List.map_cons, List.map_nil]); first | done | rfl | (simp only [List.length_drop, List.length_take]; rfl)) ?_; (with_reducible refine (ber_Decode.calls k  t99 0 t117 t118 t119 t120 t121 t122 t123 _  At124.out).mono ?_); rintro e w125 ⟨v126, rfl, hn126, hb⟩; refine ⟨_, rfl, ?_⟩); refine stop_ ?_)
    refine Stop.go ?_
    have hba := Kd.N_base hn126
    have HN126 := Aside0.mk (Kd.N_mono (Kd.N_lower hn126 (below_size HB.out)) (fun k_ h_ => ⟨(Nat.le_trans (below_size HB.out) h_), Kd.freshB (o := .cells #[.int .i64 a0_0, .int .i64 a0_1] 23 (0, 0)) BKg1.out k_ h_, Kd.freshB (o := .cells #[.int .i64 t7, .bool t8, .int .i64 t9, .string t10, .slice A37 t11.length cp38] 28 (0, 0)) BKg20.out k_ h_⟩) : Kd.N k28 28 w125 w.heap.size (fun k_ => (w.heap.size ≤ k_) ∧ k_ ≠ g1 ∧ k_ ≠ g20) v126 t121)
    replace HF58 := Aside0.mk (Kd.F_mono (Kd.F_elder' (ok := (fun k_ => (w.heap.size ≤ k_) ∧ k_ ≠ g1 ∧ k_ ≠ g20)) HF58.out hba hb) (fun k_ hk_ => ⟨hk_.1.1, hk_.1.2.1, hk_.1.2.2, hk_.2⟩) : Kd.F k28 _ (fun k_ => (w.heap.size ≤ k_) ∧ k_ ≠ g1 ∧ k_ ≠ g20 ∧ some k_ ≠ (v126 : Value).ownBlock) _ _ _)
    replace HF97 := Aside0.mk (Kd.F_mono (Kd.F_elder' (ok := (fun k_ => (w.heap.size ≤ k_) ∧ k_ ≠ g1 ∧ k_ ≠ g20)) HF97.out hba hb) (fun k_ hk_ => ⟨hk_.1.1, hk_.1.2.1, hk_.1.2.2, hk_.2⟩) : Kd.F k28 _ (fun k_ => (w.heap.size ≤ k_) ∧ k_ ≠ g1 ∧ k_ ≠ g20 ∧ some k_ ≠ (v126 : Value).ownBlock) _ _ _)
    replace BKg1 := Aside0.mk (blk_below (o := .cells #[.int .i64 a0_0, .int .i64 a0_1] 23 (0, 0)) BKg1.out hb)
    replace BKg20 := Aside0.mk (blk_below (o := .cells #[.int .i64 t7, .bool t8, .int .i64 t9, .string t10, .slice A37 t11.length cp38] 28 (0, 0)) BKg20.out hb)
    replace HB := Aside0.mk (below_step HB.out hb)
    clear hn126 hba hb
    clear hz103 hz104 hf105 hf106 hz107 hz108 hz109 hz110 hz111 hf112 hf113 hf114 hf115 hf116
    obtain ⟨hz127, hz128, hf129, hf130⟩ := MB.lay2 BKg1.out
    obtain ⟨hz131, hz132, hz133, hz134, hz135, hf136, hf137, hf138, hf139, hf140⟩ := MB.lay5 BKg20.out
    go_wp2_with (((with_reducible refine gate_dst (N := 13) rfl ?_); (try (refine gate_guard (by rfl) ?_; dsimp only)); refine box_event ?hg (N := 13) ?hd (cs := #[.int .i64 0, .bool false, .int .i64 0, .string (⟨#[]⟩ : ByteArray), .slice none 0 0]) (t := 28) ?hr ?_; (case hd => rfl); (case hg => rfl); (case hr => first | (go_simp; done) | (go_simp; rfl)); intro g141 hg w142 hbox hb); replace hg := Aside0.mk hg; replace hbox := Aside0.mk hbox; refine stop_ ?_)
    refine Stop.go ?_
    replace hg := hg.out
    replace hbox := hbox.out
    have GEg141 := Aside0.mk (by rw [hg]; exact (below_size HB.out) : w.heap.size ≤ g141)
    replace HF58 := Aside0.mk (Kd.F_elderB HF58.out g141 (Nat.le_of_eq hg.symm))
    replace HF58 := Aside0.mk (Kd.F_mono HF58.out (fun k_ hk_ => ⟨hk_.1.1, hk_.1.2.1, hk_.1.2.2.1, hk_.1.2.2.2, hk_.2⟩) : Kd.F k28 _ (fun k_ => (w.heap.size ≤ k_) ∧ k_ ≠ g1 ∧ k_ ≠ g20 ∧ some k_ ≠ (v126 : Value).ownBlock ∧ k_ ≠ g141) _ _ _)
    replace HF97 := Aside0.mk (Kd.F_elderB HF97.out g141 (Nat.le_of_eq hg.symm))
    replace HF97 := Aside0.mk (Kd.F_mono HF97.out (fun k_ hk_ => ⟨hk_.1.1, hk_.1.2.1, hk_.1.2.2.1, hk_.1.2.2.2, hk_.2⟩) : Kd.F k28 _ (fun k_ => (w.heap.size ≤ k_) ∧ k_ ≠ g1 ∧ k_ ≠ g20 ∧ some k_ ≠ (v126 : Value).ownBlock ∧ k_ ≠ g141) _ _ _)
    replace HN126 := Aside0.mk (Kd.N_elderB HN126.out g141 (Nat.le_of_eq hg.symm))
    replace HN126 := Aside0.mk (Kd.N_mono HN126.out (fun k_ hk_ => ⟨hk_.1.1, hk_.1.2.1, hk_.1.2.2, hk_.2⟩) : Kd.N k28 _ _ _ (fun k_ => (w.heap.size ≤ k_) ∧ k_ ≠ g1 ∧ k_ ≠ g20 ∧ k_ ≠ g141) _ _)
    have NEg1_g141 := Aside0.mk (by rw [hg]; exact Nat.ne_of_lt (blk_lt (o := .cells #[.int .i64 a0_0, .int .i64 a0_1] 23 (0, 0)) BKg1.out) : g1 ≠ g141)
    have NEg141_g1 := Aside0.mk (Ne.symm NEg1_g141.out)
    have NEg20_g141 := Aside0.mk (by rw [hg]; exact Nat.ne_of_lt (blk_lt (o := .cells #[.int .i64 t7, .bool t8, .int .i64 t9, .string t10, .slice A37 t11.length cp38] 28 (0, 0)) BKg20.out) : g20 ≠ g141)
    have NEg141_g20 := Aside0.mk (Ne.symm NEg20_g141.out)
    replace HF58 := Aside0.mk (Kd.F_below HF58.out hb)
    replace HF97 := Aside0.mk (Kd.F_below HF97.out hb)
    replace HN126 := Aside0.mk (Kd.N_below HN126.out hb)
    replace BKg1 := Aside0.mk (blk_below (o := .cells #[.int .i64 a0_0, .int .i64 a0_1] 23 (0, 0)) BKg1.out hb)
    replace BKg20 := Aside0.mk (blk_below (o := .cells #[.int .i64 t7, .bool t8, .int .i64 t9, .string t10, .slice A37 t11.length cp38] 28 (0, 0)) BKg20.out hb)
    replace HB := Aside0.mk (below_step HB.out hb)
    have BKg141 := Aside0.mk hbox
    clear hg hbox hb
    clear hz127 hz128 hf129 hf130 hz131 hz132 hz133 hz134 hz135 hf136 hf137 hf138 hf139 hf140
    obtain ⟨hz143, hz144, hf145, hf146⟩ := MB.lay2 BKg1.out
    obtain ⟨hz147, hz148, hz149, hz150, hz151, hf152, hf153, hf154, hf155, hf156⟩ := MB.lay5 BKg20.out
    obtain ⟨hz157, hz158, hz159, hz160, hz161, hf162, hf163, hf164, hf165, hf166⟩ := MB.lay5 BKg141.out
    obtain ⟨A168, cp169, he_⟩ := Kd.N_slice HN126.out
    subst he_
    go_wp2_with (((with_reducible refine gate_store (t := 28) (p := 13) rfl ?_); (try (refine gate_guard (by rfl) ?_; dsimp only)); refine MW.ev_store #[.int .i64 t117, .bool t118, .int .i64 t119, .string t120, (.slice A168 t121.length cp169)] rfl rfl rfl rfl (cs := #[.int .i64 0, .bool false, .int .i64 0, .string (⟨#[]⟩ : ByteArray), .slice none 0 0]) (ty := 28) BKg141.out [.int .i64 t117, .bool t118, .int .i64 t119, .string t120, (.slice A168 t121.length cp169)] rfl (by kernel_rfl) (by simp) (by simp [Value.oneCell']) rfl ?_; intro w167 hbk hg); replace hbk := Aside0.mk hbk; refine stop_ ?_)
    refine Stop.go ?_
    replace hbk := hbk.out
    replace HF58 := Aside0.mk (Kd.F_grown (ok := (fun k_ => (w.heap.size ≤ k_) ∧ k_ ≠ g1 ∧ k_ ≠ g20 ∧ some k_ ≠ ((.slice A168 t121.length cp169) : Value).ownBlock ∧ k_ ≠ g141)) HF58.out hg (fun k_ hk_ he_ => hk_.2.2.2.2 (Option.some.inj he_)))
    replace HF97 := Aside0.mk (Kd.F_grown (ok := (fun k_ => (w.heap.size ≤ k_) ∧ k_ ≠ g1 ∧ k_ ≠ g20 ∧ some k_ ≠ ((.slice A168 t121.length cp169) : Value).ownBlock ∧ k_ ≠ g141)) HF97.out hg (fun k_ hk_ he_ => hk_.2.2.2.2 (Option.some.inj he_)))
    replace HN126 := Aside0.mk (Kd.N_grown (ok := (fun k_ => (w.heap.size ≤ k_) ∧ k_ ≠ g1 ∧ k_ ≠ g20 ∧ k_ ≠ g141)) HN126.out hg (fun k_ hk_ he_ => hk_.2.2.2 (Option.some.inj he_)))
    replace BKg1 := Aside0.mk (blk_grown (o := .cells #[.int .i64 a0_0, .int .i64 a0_1] 23 (0, 0)) BKg1.out hg (fun he_ => NEg1_g141.out (Option.some.inj he_)))
    replace BKg20 := Aside0.mk (blk_grown (o := .cells #[.int .i64 t7, .bool t8, .int .i64 t9, .string t10, .slice A37 t11.length cp38] 28 (0, 0)) BKg20.out hg (fun he_ => NEg20_g141.out (Option.some.inj he_)))
    replace HB := Aside0.mk (Below.grown HB.out hg (below_size HB.out) (fun k_ hk_ => by injection hk_ with hk_; rw [← hk_]; exact GEg141.out))
    replace BKg141 := Aside0.mk hbk
    clear hg hbk
    clear hz143 hz144 hf145 hf146 hz147 hz148 hz149 hz150 hz151 hf152 hf153 hf154 hf155 hf156 hz157 hz158 hz159 hz160 hz161 hf162 hf163 hf164 hf165 hf166
    obtain ⟨hz170, hz171, hf172, hf173⟩ := MB.lay2 BKg1.out
    obtain ⟨hz174, hz175, hz176, hz177, hz178, hf179, hf180, hf181, hf182, hf183⟩ := MB.lay5 BKg20.out
    obtain ⟨hz184, hz185, hz186, hz187, hz188, hf189, hf190, hf191, hf192, hf193⟩ := MB.lay5 BKg141.out
    have HL197 := Aside0.mk (Kd.N_reads' HN126.out).2.1
    have HF196 := Aside0.mk (Kd.N_F HN126.out)
    clear HN126
    replace HF58 := Aside0.mk (Kd.F_mono (ok := (fun k_ => (w.heap.size ≤ k_) ∧ k_ ≠ g1 ∧ k_ ≠ g20 ∧ some k_ ≠ ((.slice A168 t121.length cp169) : Value).ownBlock ∧ k_ ≠ g141)) HF58.out (fun k_ hk_ => ⟨hk_.1, hk_.2.1, hk_.2.2.1, hk_.2.2.2.2⟩) : Kd.F k28 _ (fun k_ => (w.heap.size ≤ k_) ∧ k_ ≠ g1 ∧ k_ ≠ g20 ∧ k_ ≠ g141) _ _ _)
    replace HF97 := Aside0.mk (Kd.F_mono (ok := (fun k_ => (w.heap.size ≤ k_) ∧ k_ ≠ g1 ∧ k_ ≠ g20 ∧ some k_ ≠ ((.slice A168 t121.length cp169) : Value).ownBlock ∧ k_ ≠ g141)) HF97.out (fun k_ hk_ => ⟨hk_.1, hk_.2.1, hk_.2.2.1, hk_.2.2.2.2⟩) : Kd.F k28 _ (fun k_ => (w.heap.size ≤ k_) ∧ k_ ≠ g1 ∧ k_ ≠ g20 ∧ k_ ≠ g141) _ _ _)
    have H := HH.out
    replace H := Option.bind_eq_some_iff.mp H
    obtain ⟨⟨t198, t199⟩, at_, H⟩ := H
    have At200 := Aside0.mk at_
    clear at_
    replace HH := Aside0.mk (show (if t60 = a1 then (if t61 = 0 then (if t100 = 0 then (if t122 = (t99.size : Int) then (if t123 = 0 then (if t198 = a1 then (if t199 = 0 then (if (t10.size : Int) > 4 then (some false) else ((prims_Bool.f a0_0 a0_1 a2).bind fun bt252 => (if bt252.2.2.2.2.2 = 0 then ((prims_AsBool.f bt252.1 bt252.2.1 bt252.2.2.1 bt252.2.2.2.1 bt252.2.2.2.2.1).bind fun bt365 => (if (bt365.1 == a2) = true then (if bt365.2 = 0 then ((prims_Is.f bt252.1 bt252.2.1 bt252.2.2.1 bt252.2.2.2.1 bt252.2.2.2.2.1 a0_0 a0_1 false).bind fun t410 => (if t410 = true then ((toponymlaw16_awake.f k ).bind fun t448 => (some t448)) else (some false))) else (some false)) else (some false))) else (if bt252.2.2.2.2.2 = 2 then ((toponymlaw16_awake.f k ).bind fun t496 => (some t496)) else (some false))))) else (some false)) else (some false)) else (some false)) else (some false)) else (some false)) else (some false)) else (some false)) = some r from H)
    clear H
    go_wp2_with (((with_reducible refine gate_callee (f := 14) rfl ?_); (try (refine gate_guard (by rfl) ?_; dsimp only)); refine goesL_ (some 51) rfl rfl Try.func14 (by kernel_rfl) rfl #[.agg #[.int .i64 t117, .bool t118, .int .i64 t119, .string t120, .slice A168 t121.length cp169]] rfl (by (try simp only [List.map_toArray, List.map_cons, List.map_nil]); first | done | rfl | (simp only [List.length_drop, List.length_take]; rfl)) ?_; (with_reducible refine (prims_AsInt.calls k (fun k_ => (w.heap.size ≤ k_) ∧ k_ ≠ g1 ∧ k_ ≠ g20 ∧ k_ ≠ g141) t117 t118 t119 t120 _ _ t121 t198 t199 _ (Kd.F_mono (ok := (fun k_ => (w.heap.size ≤ k_) ∧ k_ ≠ g1 ∧ k_ ≠ g20 ∧ k_ ≠ g141)) HF196.out (fun k_ hk_ => ⟨hk_.1, hk_.2.1, hk_.2.2.1, hk_.2.2.2⟩)) HL197.out At200.out).mono ?_); rintro e w201 ⟨rfl, hb⟩; refine ⟨_, rfl, ?_⟩); refine stop_ ?_)
    refine Stop.go ?_
    replace HF58 := Aside0.mk (Kd.F_below HF58.out hb)
    replace HF97 := Aside0.mk (Kd.F_below HF97.out hb)
    replace HF196 := Aside0.mk (Kd.F_below HF196.out hb)
    replace BKg1 := Aside0.mk (blk_below (o := .cells #[.int .i64 a0_0, .int .i64 a0_1] 23 (0, 0)) BKg1.out hb)
    replace BKg20 := Aside0.mk (blk_below (o := .cells #[.int .i64 t7, .bool t8, .int .i64 t9, .string t10, .slice A37 t11.length cp38] 28 (0, 0)) BKg20.out hb)
    replace BKg141 := Aside0.mk (blk_below (o := .cells #[.int .i64 t117, .bool t118, .int .i64 t119, .string t120, .slice A168 t121.length cp169] 28 (0, 0)) BKg141.out hb)
    replace HB := Aside0.mk (below_step HB.out hb)
    clear hb
    clear hz170 hz171 hf172 hf173 hz174 hz175 hz176 hz177 hz178 hf179 hf180 hf181 hf182 hf183 hz184 hz185 hz186 hz187 hz188 hf189 hf190 hf191 hf192 hf193
    obtain ⟨hz202, hz203, hf204, hf205⟩ := MB.lay2 BKg1.out
    obtain ⟨hz206, hz207, hz208, hz209, hz210, hf211, hf212, hf213, hf214, hf215⟩ := MB.lay5 BKg20.out
    obtain ⟨hz216, hz217, hz218, hz219, hz220, hf221, hf222, hf223, hf224, hf225⟩ := MB.lay5 BKg141.out
    by_cases c226 : t60 = a1
    · have H := HH.out
      rw [if_pos c226] at H
      replace HH := Aside0.mk H
      clear H
      have hk227 : (t60 == a1) = true := beq_iff_eq.mpr c226
      have hk228 : (t60 != a1) = false := bne_eq_false_iff_eq.mpr c226
      clear c226
      by_cases c229 : t61 = 0
      · have H := HH.out
        rw [if_pos c229] at H
        replace HH := Aside0.mk H
        clear H
        have hk230 : (t61 == 0) = true := beq_iff_eq.mpr c229
        have hk231 : (t61 != 0) = false := bne_eq_false_iff_eq.mpr c229
        clear c229
        by_cases c232 : t100 = 0
        · have H := HH.out
          rw [if_pos c232] at H
          replace HH := Aside0.mk H
          clear H
          have hk233 : (t100 == 0) = true := beq_iff_eq.mpr c232
          have hk234 : (t100 != 0) = false := bne_eq_false_iff_eq.mpr c232
          clear c232
          by_cases c235 : t122 = (t99.size : Int)
          · have H := HH.out
            rw [if_pos c235] at H
            replace HH := Aside0.mk H
            clear H
            have hk236 : (t122 == (t99.size : Int)) = true := beq_iff_eq.mpr c235
            have hk237 : (t122 != (t99.size : Int)) = false := bne_eq_false_iff_eq.mpr c235
            clear c235
            by_cases c238 : t123 = 0
            · have H := HH.out
              rw [if_pos c238] at H
              replace HH := Aside0.mk H
              clear H
              have hk239 : (t123 == 0) = true := beq_iff_eq.mpr c238
              have hk240 : (t123 != 0) = false := bne_eq_false_iff_eq.mpr c238
              clear c238
              by_cases c241 : t198 = a1
              · have H := HH.out
                rw [if_pos c241] at H
                replace HH := Aside0.mk H
                clear H
                have hk242 : (t198 == a1) = true := beq_iff_eq.mpr c241
                have hk243 : (t198 != a1) = false := bne_eq_false_iff_eq.mpr c241
                clear c241
                by_cases c244 : t199 = 0
                · have H := HH.out
                  rw [if_pos c244] at H
                  replace HH := Aside0.mk H
                  clear H
                  have hk245 : (t199 == 0) = true := beq_iff_eq.mpr c244
                  have hk246 : (t199 != 0) = false := bne_eq_false_iff_eq.mpr c244
                  clear c244
                  by_cases c247 : (t10.size : Int) > 4
                  · have H := HH.out
                    rw [if_pos c247] at H
                    replace HH := Aside0.mk H
                    clear H
                    have hk248 : decide (4 < (t10.size : Int)) = true := decide_eq_true c247
                    have hk249 : decide (4 < t10.size) = true := decide_eq_true (by omega)
                    clear c247
                    have H := HH.out
                    obtain rfl := Option.some.inj H
                    clear HH
                    go_wp2
                    go_ret
                    exact ⟨by first | rfl | (simp; done) | (simp [*]; done), HB.out⟩
                  · have H := HH.out
                    rw [if_neg c247] at H
                    replace HH := Aside0.mk H
                    clear H
                    have hk250 : decide (4 < (t10.size : Int)) = false := decide_eq_false c247
                    have hk251 : decide (4 < t10.size) = false := decide_eq_false (by omega)
                    clear c247
                    have H := HH.out
                    replace H := Option.bind_eq_some_iff.mp H
                    obtain ⟨⟨t252, t253, t254, t255, t256, t257⟩, at_, H⟩ := H
                    have At258 := Aside0.mk at_
                    clear at_
                    replace HH := Aside0.mk (show (if t257 = 0 then ((prims_AsBool.f t252 t253 t254 t255 t256).bind fun bt365 => (if (bt365.1 == a2) = true then (if bt365.2 = 0 then ((prims_Is.f t252 t253 t254 t255 t256 a0_0 a0_1 false).bind fun t410 => (if t410 = true then ((toponymlaw16_awake.f k ).bind fun t448 => (some t448)) else (some false))) else (some false)) else (some false))) else (if t257 = 2 then ((toponymlaw16_awake.f k ).bind fun t496 => (some t496)) else (some false))) = some r from H)
                    clear H
                    go_wp2_with (((with_reducible refine gate_callee (f := 17) rfl ?_); (try (refine gate_guard (by rfl) ?_; dsimp only)); refine goesL_ (some 96) rfl rfl Try.func17 (by kernel_rfl) rfl #[.int .i64 a0_0, .int .i64 a0_1, .bool a2] rfl (by (try simp only [List.map_toArray, List.map_cons, List.map_nil]); first | done | rfl | (simp only [List.length_drop, List.length_take]; rfl)) ?_; (with_reducible refine (prims_Bool.calls  a0_0 a0_1 a2 t252 t253 t254 t255 t256 t257 _  At258.out).mono ?_); rintro e w259 ⟨v260, rfl, hn260, hb⟩; refine ⟨_, rfl, ?_⟩); refine stop_ ?_)
                    refine Stop.go ?_
                    have hba := Kd.N_base hn260
                    have HN260 := Aside0.mk (Kd.N_mono (Kd.N_lower hn260 (below_size HB.out)) (fun k_ h_ => ⟨(Nat.le_trans (below_size HB.out) h_), Kd.freshB (o := .cells #[.int .i64 a0_0, .int .i64 a0_1] 23 (0, 0)) BKg1.out k_ h_, Kd.freshB (o := .cells #[.int .i64 t7, .bool t8, .int .i64 t9, .string t10, .slice A37 t11.length cp38] 28 (0, 0)) BKg20.out k_ h_, Kd.freshB (o := .cells #[.int .i64 t117, .bool t118, .int .i64 t119, .string t120, .slice A168 t121.length cp169] 28 (0, 0)) BKg141.out k_ h_⟩) : Kd.N k28 28 w259 w.heap.size (fun k_ => (w.heap.size ≤ k_) ∧ k_ ≠ g1 ∧ k_ ≠ g20 ∧ k_ ≠ g141) v260 t256)
                    replace HF58 := Aside0.mk (Kd.F_mono (Kd.F_elder' (ok := (fun k_ => (w.heap.size ≤ k_) ∧ k_ ≠ g1 ∧ k_ ≠ g20 ∧ k_ ≠ g141)) HF58.out hba hb) (fun k_ hk_ => ⟨hk_.1.1, hk_.1.2.1, hk_.1.2.2.1, hk_.1.2.2.2, hk_.2⟩) : Kd.F k28 _ (fun k_ => (w.heap.size ≤ k_) ∧ k_ ≠ g1 ∧ k_ ≠ g20 ∧ k_ ≠ g141 ∧ some k_ ≠ (v260 : Value).ownBlock) _ _ _)
                    replace HF97 := Aside0.mk (Kd.F_mono (Kd.F_elder' (ok := (fun k_ => (w.heap.size ≤ k_) ∧ k_ ≠ g1 ∧ k_ ≠ g20 ∧ k_ ≠ g141)) HF97.out hba hb) (fun k_ hk_ => ⟨hk_.1.1, hk_.1.2.1, hk_.1.2.2.1, hk_.1.2.2.2, hk_.2⟩) : Kd.F k28 _ (fun k_ => (w.heap.size ≤ k_) ∧ k_ ≠ g1 ∧ k_ ≠ g20 ∧ k_ ≠ g141 ∧ some k_ ≠ (v260 : Value).ownBlock) _ _ _)
                    replace HF196 := Aside0.mk (Kd.F_mono (Kd.F_elder' (ok := (fun k_ => (w.heap.size ≤ k_) ∧ k_ ≠ g1 ∧ k_ ≠ g20 ∧ k_ ≠ g141)) HF196.out hba hb) (fun k_ hk_ => ⟨hk_.1.1, hk_.1.2.1, hk_.1.2.2.1, hk_.1.2.2.2, hk_.2⟩) : Kd.F k28 _ (fun k_ => (w.heap.size ≤ k_) ∧ k_ ≠ g1 ∧ k_ ≠ g20 ∧ k_ ≠ g141 ∧ some k_ ≠ (v260 : Value).ownBlock) _ _ _)
                    replace BKg1 := Aside0.mk (blk_below (o := .cells #[.int .i64 a0_0, .int .i64 a0_1] 23 (0, 0)) BKg1.out hb)
                    replace BKg20 := Aside0.mk (blk_below (o := .cells #[.int .i64 t7, .bool t8, .int .i64 t9, .string t10, .slice A37 t11.length cp38] 28 (0, 0)) BKg20.out hb)
                    replace BKg141 := Aside0.mk (blk_below (o := .cells #[.int .i64 t117, .bool t118, .int .i64 t119, .string t120, .slice A168 t121.length cp169] 28 (0, 0)) BKg141.out hb)
                    replace HB := Aside0.mk (below_step HB.out hb)
                    clear hn260 hba hb
                    clear hz202 hz203 hf204 hf205 hz206 hz207 hz208 hz209 hz210 hf211 hf212 hf213 hf214 hf215 hz216 hz217 hz218 hz219 hz220 hf221 hf222 hf223 hf224 hf225
                    obtain ⟨hz261, hz262, hf263, hf264⟩ := MB.lay2 BKg1.out
                    obtain ⟨hz265, hz266, hz267, hz268, hz269, hf270, hf271, hf272, hf273, hf274⟩ := MB.lay5 BKg20.out
                    obtain ⟨hz275, hz276, hz277, hz278, hz279, hf280, hf281, hf282, hf283, hf284⟩ := MB.lay5 BKg141.out
                    go_wp2_with (((with_reducible refine gate_dst (N := 18) rfl ?_); (try (refine gate_guard (by rfl) ?_; dsimp only)); refine box_event ?hg (N := 18) ?hd (cs := #[.int .i64 0, .bool false, .int .i64 0, .string (⟨#[]⟩ : ByteArray), .slice none 0 0]) (t := 28) ?hr ?_; (case hd => rfl); (case hg => rfl); (case hr => first | (go_simp; done) | (go_simp; rfl)); intro g285 hg w286 hbox hb); replace hg := Aside0.mk hg; replace hbox := Aside0.mk hbox; refine stop_ ?_)
                    refine Stop.go ?_
                    replace hg := hg.out
                    replace hbox := hbox.out
                    have GEg285 := Aside0.mk (by rw [hg]; exact (below_size HB.out) : w.heap.size ≤ g285)
                    replace HF58 := Aside0.mk (Kd.F_elderB HF58.out g285 (Nat.le_of_eq hg.symm))
                    replace HF58 := Aside0.mk (Kd.F_mono HF58.out (fun k_ hk_ => ⟨hk_.1.1, hk_.1.2.1, hk_.1.2.2.1, hk_.1.2.2.2.1, hk_.1.2.2.2.2, hk_.2⟩) : Kd.F k28 _ (fun k_ => (w.heap.size ≤ k_) ∧ k_ ≠ g1 ∧ k_ ≠ g20 ∧ k_ ≠ g141 ∧ some k_ ≠ (v260 : Value).ownBlock ∧ k_ ≠ g285) _ _ _)
                    replace HF97 := Aside0.mk (Kd.F_elderB HF97.out g285 (Nat.le_of_eq hg.symm))
                    replace HF97 := Aside0.mk (Kd.F_mono HF97.out (fun k_ hk_ => ⟨hk_.1.1, hk_.1.2.1, hk_.1.2.2.1, hk_.1.2.2.2.1, hk_.1.2.2.2.2, hk_.2⟩) : Kd.F k28 _ (fun k_ => (w.heap.size ≤ k_) ∧ k_ ≠ g1 ∧ k_ ≠ g20 ∧ k_ ≠ g141 ∧ some k_ ≠ (v260 : Value).ownBlock ∧ k_ ≠ g285) _ _ _)
                    replace HF196 := Aside0.mk (Kd.F_elderB HF196.out g285 (Nat.le_of_eq hg.symm))
                    replace HF196 := Aside0.mk (Kd.F_mono HF196.out (fun k_ hk_ => ⟨hk_.1.1, hk_.1.2.1, hk_.1.2.2.1, hk_.1.2.2.2.1, hk_.1.2.2.2.2, hk_.2⟩) : Kd.F k28 _ (fun k_ => (w.heap.size ≤ k_) ∧ k_ ≠ g1 ∧ k_ ≠ g20 ∧ k_ ≠ g141 ∧ some k_ ≠ (v260 : Value).ownBlock ∧ k_ ≠ g285) _ _ _)
                    replace HN260 := Aside0.mk (Kd.N_elderB HN260.out g285 (Nat.le_of_eq hg.symm))
                    replace HN260 := Aside0.mk (Kd.N_mono HN260.out (fun k_ hk_ => ⟨hk_.1.1, hk_.1.2.1, hk_.1.2.2.1, hk_.1.2.2.2, hk_.2⟩) : Kd.N k28 _ _ _ (fun k_ => (w.heap.size ≤ k_) ∧ k_ ≠ g1 ∧ k_ ≠ g20 ∧ k_ ≠ g141 ∧ k_ ≠ g285) _ _)
                    have NEg1_g285 := Aside0.mk (by rw [hg]; exact Nat.ne_of_lt (blk_lt (o := .cells #[.int .i64 a0_0, .int .i64 a0_1] 23 (0, 0)) BKg1.out) : g1 ≠ g285)
                    have NEg285_g1 := Aside0.mk (Ne.symm NEg1_g285.out)
                    have NEg20_g285 := Aside0.mk (by rw [hg]; exact Nat.ne_of_lt (blk_lt (o := .cells #[.int .i64 t7, .bool t8, .int .i64 t9, .string t10, .slice A37 t11.length cp38] 28 (0, 0)) BKg20.out) : g20 ≠ g285)
                    have NEg285_g20 := Aside0.mk (Ne.symm NEg20_g285.out)
                    have NEg141_g285 := Aside0.mk (by rw [hg]; exact Nat.ne_of_lt (blk_lt (o := .cells #[.int .i64 t117, .bool t118, .int .i64 t119, .string t120, .slice A168 t121.length cp169] 28 (0, 0)) BKg141.out) : g141 ≠ g285)
                    have NEg285_g141 := Aside0.mk (Ne.symm NEg141_g285.out)
                    replace HF58 := Aside0.mk (Kd.F_below HF58.out hb)
                    replace HF97 := Aside0.mk (Kd.F_below HF97.out hb)
                    replace HF196 := Aside0.mk (Kd.F_below HF196.out hb)
                    replace HN260 := Aside0.mk (Kd.N_below HN260.out hb)
                    replace BKg1 := Aside0.mk (blk_below (o := .cells #[.int .i64 a0_0, .int .i64 a0_1] 23 (0, 0)) BKg1.out hb)
                    replace BKg20 := Aside0.mk (blk_below (o := .cells #[.int .i64 t7, .bool t8, .int .i64 t9, .string t10, .slice A37 t11.length cp38] 28 (0, 0)) BKg20.out hb)
                    replace BKg141 := Aside0.mk (blk_below (o := .cells #[.int .i64 t117, .bool t118, .int .i64 t119, .string t120, .slice A168 t121.length cp169] 28 (0, 0)) BKg141.out hb)
                    replace HB := Aside0.mk (below_step HB.out hb)
                    have BKg285 := Aside0.mk hbox
                    clear hg hbox hb
                    clear hz261 hz262 hf263 hf264 hz265 hz266 hz267 hz268 hz269 hf270 hf271 hf272 hf273 hf274 hz275 hz276 hz277 hz278 hz279 hf280 hf281 hf282 hf283 hf284
                    obtain ⟨hz287, hz288, hf289, hf290⟩ := MB.lay2 BKg1.out
                    obtain ⟨hz291, hz292, hz293, hz294, hz295, hf296, hf297, hf298, hf299, hf300⟩ := MB.lay5 BKg20.out
                    obtain ⟨hz301, hz302, hz303, hz304, hz305, hf306, hf307, hf308, hf309, hf310⟩ := MB.lay5 BKg141.out
                    obtain ⟨hz311, hz312, hz313, hz314, hz315, hf316, hf317, hf318, hf319, hf320⟩ := MB.lay5 BKg285.out
                    obtain ⟨A322, cp323, he_⟩ := Kd.N_slice HN260.out
                    subst he_
                    go_wp2_with (((with_reducible refine gate_store (t := 28) (p := 18) rfl ?_); (try (refine gate_guard (by rfl) ?_; dsimp only)); refine MW.ev_store #[.int .i64 t252, .bool t253, .int .i64 t254, .string t255, (.slice A322 t256.length cp323)] rfl rfl rfl rfl (cs := #[.int .i64 0, .bool false, .int .i64 0, .string (⟨#[]⟩ : ByteArray), .slice none 0 0]) (ty := 28) BKg285.out [.int .i64 t252, .bool t253, .int .i64 t254, .string t255, (.slice A322 t256.length cp323)] rfl (by kernel_rfl) (by simp) (by simp [Value.oneCell']) rfl ?_; intro w321 hbk hg); replace hbk := Aside0.mk hbk; refine stop_ ?_)
                    refine Stop.go ?_
                    replace hbk := hbk.out
                    replace HF58 := Aside0.mk (Kd.F_grown (ok := (fun k_ => (w.heap.size ≤ k_) ∧ k_ ≠ g1 ∧ k_ ≠ g20 ∧ k_ ≠ g141 ∧ some k_ ≠ ((.slice A322 t256.length cp323) : Value).ownBlock ∧ k_ ≠ g285)) HF58.out hg (fun k_ hk_ he_ => hk_.2.2.2.2.2 (Option.some.inj he_)))
                    replace HF97 := Aside0.mk (Kd.F_grown (ok := (fun k_ => (w.heap.size ≤ k_) ∧ k_ ≠ g1 ∧ k_ ≠ g20 ∧ k_ ≠ g141 ∧ some k_ ≠ ((.slice A322 t256.length cp323) : Value).ownBlock ∧ k_ ≠ g285)) HF97.out hg (fun k_ hk_ he_ => hk_.2.2.2.2.2 (Option.some.inj he_)))
                    replace HF196 := Aside0.mk (Kd.F_grown (ok := (fun k_ => (w.heap.size ≤ k_) ∧ k_ ≠ g1 ∧ k_ ≠ g20 ∧ k_ ≠ g141 ∧ some k_ ≠ ((.slice A322 t256.length cp323) : Value).ownBlock ∧ k_ ≠ g285)) HF196.out hg (fun k_ hk_ he_ => hk_.2.2.2.2.2 (Option.some.inj he_)))
                    replace HN260 := Aside0.mk (Kd.N_grown (ok := (fun k_ => (w.heap.size ≤ k_) ∧ k_ ≠ g1 ∧ k_ ≠ g20 ∧ k_ ≠ g141 ∧ k_ ≠ g285)) HN260.out hg (fun k_ hk_ he_ => hk_.2.2.2.2 (Option.some.inj he_)))
                    replace BKg1 := Aside0.mk (blk_grown (o := .cells #[.int .i64 a0_0, .int .i64 a0_1] 23 (0, 0)) BKg1.out hg (fun he_ => NEg1_g285.out (Option.some.inj he_)))
                    replace BKg20 := Aside0.mk (blk_grown (o := .cells #[.int .i64 t7, .bool t8, .int .i64 t9, .string t10, .slice A37 t11.length cp38] 28 (0, 0)) BKg20.out hg (fun he_ => NEg20_g285.out (Option.some.inj he_)))
                    replace BKg141 := Aside0.mk (blk_grown (o := .cells #[.int .i64 t117, .bool t118, .int .i64 t119, .string t120, .slice A168 t121.length cp169] 28 (0, 0)) BKg141.out hg (fun he_ => NEg141_g285.out (Option.some.inj he_)))
                    replace HB := Aside0.mk (Below.grown HB.out hg (below_size HB.out) (fun k_ hk_ => by injection hk_ with hk_; rw [← hk_]; exact GEg285.out))
                    replace BKg285 := Aside0.mk hbk
                    clear hg hbk
                    clear hz287 hz288 hf289 hf290 hz291 hz292 hz293 hz294 hz295 hf296 hf297 hf298 hf299 hf300 hz301 hz302 hz303 hz304 hz305 hf306 hf307 hf308 hf309 hf310 hz311 hz312 hz313 hz314 hz315 hf316 hf317 hf318 hf319 hf320
                    obtain ⟨hz324, hz325, hf326, hf327⟩ := MB.lay2 BKg1.out
                    obtain ⟨hz328, hz329, hz330, hz331, hz332, hf333, hf334, hf335, hf336, hf337⟩ := MB.lay5 BKg20.out
                    obtain ⟨hz338, hz339, hz340, hz341, hz342, hf343, hf344, hf345, hf346, hf347⟩ := MB.lay5 BKg141.out
                    obtain ⟨hz348, hz349, hz350, hz351, hz352, hf353, hf354, hf355, hf356, hf357⟩ := MB.lay5 BKg285.out
                    by_cases c358 : t257 = 0
                    · have H := HH.out
                      rw [if_pos c358] at H
                      replace HH := Aside0.mk H
                      clear H
                      have hk359 : (t257 == 0) = true := beq_iff_eq.mpr c358
                      have hk360 : (t257 != 0) = false := bne_eq_false_iff_eq.mpr c358
                      clear c358
                      have HL364 := Aside0.mk (Kd.N_reads' HN260.out).2.1
                      have HF363 := Aside0.mk (Kd.N_F HN260.out)
                      clear HN260
                      replace HF58 := Aside0.mk (Kd.F_mono (ok := (fun k_ => (w.heap.size ≤ k_) ∧ k_ ≠ g1 ∧ k_ ≠ g20 ∧ k_ ≠ g141 ∧ some k_ ≠ ((.slice A322 t256.length cp323) : Value).ownBlock ∧ k_ ≠ g285)) HF58.out (fun k_ hk_ => ⟨hk_.1, hk_.2.1, hk_.2.2.1, hk_.2.2.2.1, hk_.2.2.2.2.2⟩) : Kd.F k28 _ (fun k_ => (w.heap.size ≤ k_) ∧ k_ ≠ g1 ∧ k_ ≠ g20 ∧ k_ ≠ g141 ∧ k_ ≠ g285) _ _ _)
                      replace HF97 := Aside0.mk (Kd.F_mono (ok := (fun k_ => (w.heap.size ≤ k_) ∧ k_ ≠ g1 ∧ k_ ≠ g20 ∧ k_ ≠ g141 ∧ some k_ ≠ ((.slice A322 t256.length cp323) : Value).ownBlock ∧ k_ ≠ g285)) HF97.out (fun k_ hk_ => ⟨hk_.1, hk_.2.1, hk_.2.2.1, hk_.2.2.2.1, hk_.2.2.2.2.2⟩) : Kd.F k28 _ (fun k_ => (w.heap.size ≤ k_) ∧ k_ ≠ g1 ∧ k_ ≠ g20 ∧ k_ ≠ g141 ∧ k_ ≠ g285) _ _ _)
                      replace HF196 := Aside0.mk (Kd.F_mono (ok := (fun k_ => (w.heap.size ≤ k_) ∧ k_ ≠ g1 ∧ k_ ≠ g20 ∧ k_ ≠ g141 ∧ some k_ ≠ ((.slice A322 t256.length cp323) : Value).ownBlock ∧ k_ ≠ g285)) HF196.out (fun k_ hk_ => ⟨hk_.1, hk_.2.1, hk_.2.2.1, hk_.2.2.2.1, hk_.2.2.2.2.2⟩) : Kd.F k28 _ (fun k_ => (w.heap.size ≤ k_) ∧ k_ ≠ g1 ∧ k_ ≠ g20 ∧ k_ ≠ g141 ∧ k_ ≠ g285) _ _ _)
                      have H := HH.out
                      replace H := Option.bind_eq_some_iff.mp H
                      obtain ⟨⟨t365, t366⟩, at_, H⟩ := H
                      have At367 := Aside0.mk at_
                      clear at_
                      replace HH := Aside0.mk (show (if (t365 == a2) = true then (if t366 = 0 then ((prims_Is.f t252 t253 t254 t255 t256 a0_0 a0_1 false).bind fun t410 => (if t410 = true then ((toponymlaw16_awake.f k ).bind fun t448 => (some t448)) else (some false))) else (some false)) else (some false)) = some r from H)
                      clear H
                      go_wp2_with (((with_reducible refine gate_callee (f := 22) rfl ?_); (try (refine gate_guard (by rfl) ?_; dsimp only)); refine goesL_ (some 108) rfl rfl Try.func22 (by kernel_rfl) rfl #[.agg #[.int .i64 t252, .bool t253, .int .i64 t254, .string t255, .slice A322 t256.length cp323]] rfl (by (try simp only [List.map_toArray, List.map_cons, List.map_nil]); first | done | rfl | (simp only [List.length_drop, List.length_take]; rfl)) ?_; (with_reducible refine (prims_AsBool.calls (fun k_ => (w.heap.size ≤ k_) ∧ k_ ≠ g1 ∧ k_ ≠ g20 ∧ k_ ≠ g141 ∧ k_ ≠ g285) t252 t253 t254 t255 _ _ t256 t365 t366 _ (Kd.F_mono (ok := (fun k_ => (w.heap.size ≤ k_) ∧ k_ ≠ g1 ∧ k_ ≠ g20 ∧ k_ ≠ g141 ∧ k_ ≠ g285)) HF363.out (fun k_ hk_ => ⟨hk_.1, hk_.2.1, hk_.2.2.1, hk_.2.2.2.1, hk_.2.2.2.2⟩)) HL364.out At367.out).mono ?_); rintro e w368 ⟨rfl, hb⟩; refine ⟨_, rfl, ?_⟩); refine stop_ ?_)
                      refine Stop.go ?_
                      replace HF58 := Aside0.mk (Kd.F_below HF58.out hb)
                      replace HF97 := Aside0.mk (Kd.F_below HF97.out hb)
                      replace HF196 := Aside0.mk (Kd.F_below HF196.out hb)
                      replace HF363 := Aside0.mk (Kd.F_below HF363.out hb)
                      replace BKg1 := Aside0.mk (blk_below (o := .cells #[.int .i64 a0_0, .int .i64 a0_1] 23 (0, 0)) BKg1.out hb)
                      replace BKg20 := Aside0.mk (blk_below (o := .cells #[.int .i64 t7, .bool t8, .int .i64 t9, .string t10, .slice A37 t11.length cp38] 28 (0, 0)) BKg20.out hb)
                      replace BKg141 := Aside0.mk (blk_below (o := .cells #[.int .i64 t117, .bool t118, .int .i64 t119, .string t120, .slice A168 t121.length cp169] 28 (0, 0)) BKg141.out hb)
                      replace BKg285 := Aside0.mk (blk_below (o := .cells #[.int .i64 t252, .bool t253, .int .i64 t254, .string t255, .slice A322 t256.length cp323] 28 (0, 0)) BKg285.out hb)
                      replace HB := Aside0.mk (below_step HB.out hb)
                      clear hb
                      clear hz324 hz325 hf326 hf327 hz328 hz329 hz330 hz331 hz332 hf333 hf334 hf335 hf336 hf337 hz338 hz339 hz340 hz341 hz342 hf343 hf344 hf345 hf346 hf347 hz348 hz349 hz350 hz351 hz352 hf353 hf354 hf355 hf356 hf357
                      obtain ⟨hz369, hz370, hf371, hf372⟩ := MB.lay2 BKg1.out
                      obtain ⟨hz373, hz374, hz375, hz376, hz377, hf378, hf379, hf380, hf381, hf382⟩ := MB.lay5 BKg20.out
                      obtain ⟨hz383, hz384, hz385, hz386, hz387, hf388, hf389, hf390, hf391, hf392⟩ := MB.lay5 BKg141.out
                      obtain ⟨hz393, hz394, hz395, hz396, hz397, hf398, hf399, hf400, hf401, hf402⟩ := MB.lay5 BKg285.out
                      by_cases c403 : (t365 == a2) = true
                      · have H := HH.out
                        rw [if_pos c403] at H
                        replace HH := Aside0.mk H
                        clear H
                        have hk404 : (t365 == a2) = true := c403
                        try have hk405 : decide (t365 = a2) = true := by simpa using c403
                        try have hk406 : (t365 == a2) = true := by simpa using c403
                        clear c403
                        by_cases c407 : t366 = 0
                        · have H := HH.out
                          rw [if_pos c407] at H
                          replace HH := Aside0.mk H
                          clear H
                          have hk408 : (t366 == 0) = true := beq_iff_eq.mpr c407
                          have hk409 : (t366 != 0) = false := bne_eq_false_iff_eq.mpr c407
                          clear c407
                          have H := HH.out
                          replace H := Option.bind_eq_some_iff.mp H
                          obtain ⟨t410, at_, H⟩ := H
                          have At411 := Aside0.mk at_
                          clear at_
                          replace HH := Aside0.mk (show (if t410 = true then ((toponymlaw16_awake.f k ).bind fun t448 => (some t448)) else (some false)) = some r from H)
                          clear H
                          go_wp2_with (((with_reducible refine gate_callee (f := 13) rfl ?_); (try (refine gate_guard (by rfl) ?_; dsimp only)); refine goesL_ (some 124) rfl rfl Try.func13 (by kernel_rfl) rfl #[.agg #[.int .i64 t252, .bool t253, .int .i64 t254, .string t255, .slice A322 t256.length cp323], .int .i64 a0_0, .int .i64 a0_1, .bool false] rfl (by (try simp only [List.map_toArray, List.map_cons, List.map_nil]); first | done | rfl | (simp only [List.length_drop, List.length_take]; rfl)) ?_; (with_reducible refine (prims_Is.calls (fun k_ => (w.heap.size ≤ k_) ∧ k_ ≠ g1 ∧ k_ ≠ g20 ∧ k_ ≠ g141 ∧ k_ ≠ g285) t252 t253 t254 t255 _ _ t256 a0_0 a0_1 false t410 _ (Kd.F_mono (ok := (fun k_ => (w.heap.size ≤ k_) ∧ k_ ≠ g1 ∧ k_ ≠ g20 ∧ k_ ≠ g141 ∧ k_ ≠ g285)) HF363.out (fun k_ hk_ => ⟨hk_.1, hk_.2.1, hk_.2.2.1, hk_.2.2.2.1, hk_.2.2.2.2⟩)) HL364.out At411.out).mono ?_); rintro e w412 ⟨rfl, hb⟩; refine ⟨_, rfl, ?_⟩); refine stop_ ?_)
                          refine Stop.go ?_
                          replace HF58 := Aside0.mk (Kd.F_below HF58.out hb)
                          replace HF97 := Aside0.mk (Kd.F_below HF97.out hb)
                          replace HF196 := Aside0.mk (Kd.F_below HF196.out hb)
                          replace HF363 := Aside0.mk (Kd.F_below HF363.out hb)
                          replace BKg1 := Aside0.mk (blk_below (o := .cells #[.int .i64 a0_0, .int .i64 a0_1] 23 (0, 0)) BKg1.out hb)
                          replace BKg20 := Aside0.mk (blk_below (o := .cells #[.int .i64 t7, .bool t8, .int .i64 t9, .string t10, .slice A37 t11.length cp38] 28 (0, 0)) BKg20.out hb)
                          replace BKg141 := Aside0.mk (blk_below (o := .cells #[.int .i64 t117, .bool t118, .int .i64 t119, .string t120, .slice A168 t121.length cp169] 28 (0, 0)) BKg141.out hb)
                          replace BKg285 := Aside0.mk (blk_below (o := .cells #[.int .i64 t252, .bool t253, .int .i64 t254, .string t255, .slice A322 t256.length cp323] 28 (0, 0)) BKg285.out hb)
                          replace HB := Aside0.mk (below_step HB.out hb)
                          clear hb
                          clear hz369 hz370 hf371 hf372 hz373 hz374 hz375 hz376 hz377 hf378 hf379 hf380 hf381 hf382 hz383 hz384 hz385 hz386 hz387 hf388 hf389 hf390 hf391 hf392 hz393 hz394 hz395 hz396 hz397 hf398 hf399 hf400 hf401 hf402
                          obtain ⟨hz413, hz414, hf415, hf416⟩ := MB.lay2 BKg1.out
                          obtain ⟨hz417, hz418, hz419, hz420, hz421, hf422, hf423, hf424, hf425, hf426⟩ := MB.lay5 BKg20.out
                          obtain ⟨hz427, hz428, hz429, hz430, hz431, hf432, hf433, hf434, hf435, hf436⟩ := MB.lay5 BKg141.out
                          obtain ⟨hz437, hz438, hz439, hz440, hz441, hf442, hf443, hf444, hf445, hf446⟩ := MB.lay5 BKg285.out
                          by_cases c447 : t410 = true
                          · have H := HH.out
                            rw [if_pos c447] at H
                            replace HH := Aside0.mk H
                            clear H
                            subst c447
                            have H := HH.out
                            replace H := Option.bind_eq_some_iff.mp H
                            obtain ⟨t448, at_, H⟩ := H
                            have At449 := Aside0.mk at_
                            clear at_
                            replace HH := Aside0.mk (show (some t448) = some r from H)
                            clear H
                            go_wp2_with (((with_reducible refine gate_callee (f := 8) rfl ?_); (try (refine gate_guard (by rfl) ?_; dsimp only)); refine goesL_ (some 127) rfl rfl Try.func8 (by kernel_rfl) rfl #[] rfl (by (try simp only [List.map_toArray, List.map_cons, List.map_nil]); first | done | rfl | (simp only [List.length_drop, List.length_take]; rfl)) ?_; (with_reducible refine (toponymlaw16_awake.calls k  t448 _  At449.out).mono ?_); rintro e w450 ⟨rfl, hb⟩; refine ⟨_, rfl, ?_⟩); refine stop_ ?_)
                            refine Stop.go ?_
                            replace HF58 := Aside0.mk (Kd.F_below HF58.out hb)
                            replace HF97 := Aside0.mk (Kd.F_below HF97.out hb)
                            replace HF196 := Aside0.mk (Kd.F_below HF196.out hb)
                            replace HF363 := Aside0.mk (Kd.F_below HF363.out hb)
                            replace BKg1 := Aside0.mk (blk_below (o := .cells #[.int .i64 a0_0, .int .i64 a0_1] 23 (0, 0)) BKg1.out hb)
                            replace BKg20 := Aside0.mk (blk_below (o := .cells #[.int .i64 t7, .bool t8, .int .i64 t9, .string t10, .slice A37 t11.length cp38] 28 (0, 0)) BKg20.out hb)
                            replace BKg141 := Aside0.mk (blk_below (o := .cells #[.int .i64 t117, .bool t118, .int .i64 t119, .string t120, .slice A168 t121.length cp169] 28 (0, 0)) BKg141.out hb)
                            replace BKg285 := Aside0.mk (blk_below (o := .cells #[.int .i64 t252, .bool t253, .int .i64 t254, .string t255, .slice A322 t256.length cp323] 28 (0, 0)) BKg285.out hb)
                            replace HB := Aside0.mk (below_step HB.out hb)
                            clear hb
                            clear hz413 hz414 hf415 hf416 hz417 hz418 hz419 hz420 hz421 hf422 hf423 hf424 hf425 hf426 hz427 hz428 hz429 hz430 hz431 hf432 hf433 hf434 hf435 hf436 hz437 hz438 hz439 hz440 hz441 hf442 hf443 hf444 hf445 hf446
                            obtain ⟨hz451, hz452, hf453, hf454⟩ := MB.lay2 BKg1.out
                            obtain ⟨hz455, hz456, hz457, hz458, hz459, hf460, hf461, hf462, hf463, hf464⟩ := MB.lay5 BKg20.out
                            obtain ⟨hz465, hz466, hz467, hz468, hz469, hf470, hf471, hf472, hf473, hf474⟩ := MB.lay5 BKg141.out
                            obtain ⟨hz475, hz476, hz477, hz478, hz479, hf480, hf481, hf482, hf483, hf484⟩ := MB.lay5 BKg285.out
                            have H := HH.out
                            obtain rfl := Option.some.inj H
                            clear HH
                            go_wp2
                            go_ret
                            exact ⟨by first | rfl | (simp; done) | (simp [*]; done), HB.out⟩
                          · have H := HH.out
                            rw [if_neg c447] at H
                            replace HH := Aside0.mk H
                            clear H
                            replace c447 := Bool.eq_false_iff.mpr c447
                            subst c447
                            have H := HH.out
                            obtain rfl := Option.some.inj H
                            clear HH
                            go_wp2
                            go_ret
                            exact ⟨by first | rfl | (simp; done) | (simp [*]; done), HB.out⟩
                        · have H := HH.out
                          rw [if_neg c407] at H
                          replace HH := Aside0.mk H
                          clear H
                          have hk485 : (t366 == 0) = false := beq_eq_false_iff_ne.mpr c407
                          have hk486 : (t366 != 0) = true := bne_iff_ne.mpr c407
                          clear c407
                          have H := HH.out
                          obtain rfl := Option.some.inj H
                          clear HH
                          go_wp2
                          go_ret
                          exact ⟨by first | rfl | (simp; done) | (simp [*]; done), HB.out⟩
                      · have H := HH.out
                        rw [if_neg c403] at H
                        replace HH := Aside0.mk H
                        clear H
                        have hk487 : (t365 == a2) = false := by simpa using c403
                        try have hk488 : decide (t365 = a2) = false := by simpa using c403
                        try have hk489 : (t365 == a2) = false := by simpa using c403
                        try have hk490 : ¬ (t365 = a2) := by simpa using c403
                        clear c403
                        have H := HH.out
                        obtain rfl := Option.some.inj H
                        clear HH
                        go_wp2
                        go_ret
                        exact ⟨by first | rfl | (simp; done) | (simp [*]; done), HB.out⟩
                    · have H := HH.out
                      rw [if_neg c358] at H
                      replace HH := Aside0.mk H
                      clear H
                      have hk491 : (t257 == 0) = false := beq_eq_false_iff_ne.mpr c358
                      have hk492 : (t257 != 0) = true := bne_iff_ne.mpr c358
                      clear c358
                      by_cases c493 : t257 = 2
                      · have H := HH.out
                        rw [if_pos c493] at H
                        replace HH := Aside0.mk H
                        clear H
                        have hk494 : (t257 == 2) = true := beq_iff_eq.mpr c493
                        have hk495 : (t257 != 2) = false := bne_eq_false_iff_eq.mpr c493
                        clear c493
                        have H := HH.out
                        replace H := Option.bind_eq_some_iff.mp H
                        obtain ⟨t496, at_, H⟩ := H
                        have At497 := Aside0.mk at_
                        clear at_
                        replace HH := Aside0.mk (show (some t496) = some r from H)
                        clear H
                        go_wp2_with (((with_reducible refine gate_callee (f := 8) rfl ?_); (try (refine gate_guard (by rfl) ?_; dsimp only)); refine goesL_ (some 104) rfl rfl Try.func8 (by kernel_rfl) rfl #[] rfl (by (try simp only [List.map_toArray, List.map_cons, List.map_nil]); first | done | rfl | (simp only [List.length_drop, List.length_take]; rfl)) ?_; (with_reducible refine (toponymlaw16_awake.calls k  t496 _  At497.out).mono ?_); rintro e w498 ⟨rfl, hb⟩; refine ⟨_, rfl, ?_⟩); refine stop_ ?_)
                        refine Stop.go ?_
                        replace HF58 := Aside0.mk (Kd.F_below HF58.out hb)
                        replace HF97 := Aside0.mk (Kd.F_below HF97.out hb)
                        replace HF196 := Aside0.mk (Kd.F_below HF196.out hb)
                        replace HN260 := Aside0.mk (Kd.N_below HN260.out hb)
                        replace BKg1 := Aside0.mk (blk_below (o := .cells #[.int .i64 a0_0, .int .i64 a0_1] 23 (0, 0)) BKg1.out hb)
                        replace BKg20 := Aside0.mk (blk_below (o := .cells #[.int .i64 t7, .bool t8, .int .i64 t9, .string t10, .slice A37 t11.length cp38] 28 (0, 0)) BKg20.out hb)
                        replace BKg141 := Aside0.mk (blk_below (o := .cells #[.int .i64 t117, .bool t118, .int .i64 t119, .string t120, .slice A168 t121.length cp169] 28 (0, 0)) BKg141.out hb)
                        replace BKg285 := Aside0.mk (blk_below (o := .cells #[.int .i64 t252, .bool t253, .int .i64 t254, .string t255, (.slice A322 t256.length cp323)] 28 (0, 0)) BKg285.out hb)
                        replace HB := Aside0.mk (below_step HB.out hb)
                        clear hb
                        clear hz324 hz325 hf326 hf327 hz328 hz329 hz330 hz331 hz332 hf333 hf334 hf335 hf336 hf337 hz338 hz339 hz340 hz341 hz342 hf343 hf344 hf345 hf346 hf347 hz348 hz349 hz350 hz351 hz352 hf353 hf354 hf355 hf356 hf357
                        obtain ⟨hz499, hz500, hf501, hf502⟩ := MB.lay2 BKg1.out
                        obtain ⟨hz503, hz504, hz505, hz506, hz507, hf508, hf509, hf510, hf511, hf512⟩ := MB.lay5 BKg20.out
                        obtain ⟨hz513, hz514, hz515, hz516, hz517, hf518, hf519, hf520, hf521, hf522⟩ := MB.lay5 BKg141.out
                        obtain ⟨hz523, hz524, hz525, hz526, hz527, hf528, hf529, hf530, hf531, hf532⟩ := MB.lay5 BKg285.out
                        have H := HH.out
                        obtain rfl := Option.some.inj H
                        clear HH
                        go_wp2
                        go_ret
                        exact ⟨by first | rfl | (simp; done) | (simp [*]; done), HB.out⟩
                      · have H := HH.out
                        rw [if_neg c493] at H
                        replace HH := Aside0.mk H
                        clear H
                        have hk533 : (t257 == 2) = false := beq_eq_false_iff_ne.mpr c493
                        have hk534 : (t257 != 2) = true := bne_iff_ne.mpr c493
                        clear c493
                        have H := HH.out
                        obtain rfl := Option.some.inj H
                        clear HH
                        go_wp2
                        go_ret
                        exact ⟨by first | rfl | (simp; done) | (simp [*]; done), HB.out⟩
                · have H := HH.out
                  rw [if_neg c244] at H
                  replace HH := Aside0.mk H
                  clear H
                  have hk535 : (t199 == 0) = false := beq_eq_false_iff_ne.mpr c244
                  have hk536 : (t199 != 0) = true := bne_iff_ne.mpr c244
                  clear c244
                  have H := HH.out
                  obtain rfl := Option.some.inj H
                  clear HH
                  go_wp2
                  go_ret
                  exact ⟨by first | rfl | (simp; done) | (simp [*]; done), HB.out⟩
              · have H := HH.out
                rw [if_neg c241] at H
                replace HH := Aside0.mk H
                clear H
                have hk537 : (t198 == a1) = false := beq_eq_false_iff_ne.mpr c241
                have hk538 : (t198 != a1) = true := bne_iff_ne.mpr c241
                clear c241
                have H := HH.out
                obtain rfl := Option.some.inj H
                clear HH
                go_wp2
                go_ret
                exact ⟨by first | rfl | (simp; done) | (simp [*]; done), HB.out⟩
            · have H := HH.out
              rw [if_neg c238] at H
              replace HH := Aside0.mk H
              clear H
              have hk539 : (t123 == 0) = false := beq_eq_false_iff_ne.mpr c238
              have hk540 : (t123 != 0) = true := bne_iff_ne.mpr c238
              clear c238
              have H := HH.out
              obtain rfl := Option.some.inj H
              clear HH
              go_wp2
              go_ret
              exact ⟨by first | rfl | (simp; done) | (simp [*]; done), HB.out⟩
          · have H := HH.out
            rw [if_neg c235] at H
            replace HH := Aside0.mk H
            clear H
            have hk541 : (t122 == (t99.size : Int)) = false := beq_eq_false_iff_ne.mpr c235
            have hk542 : (t122 != (t99.size : Int)) = true := bne_iff_ne.mpr c235
            clear c235
            have H := HH.out
            obtain rfl := Option.some.inj H
            clear HH
            go_wp2
            go_ret
            exact ⟨by first | rfl | (simp; done) | (simp [*]; done), HB.out⟩
        · have H := HH.out
          rw [if_neg c232] at H
          replace HH := Aside0.mk H
          clear H
          have hk543 : (t100 == 0) = false := beq_eq_false_iff_ne.mpr c232
          have hk544 : (t100 != 0) = true := bne_iff_ne.mpr c232
          clear c232
          have H := HH.out
          obtain rfl := Option.some.inj H
          clear HH
          go_wp2
          go_ret
          exact ⟨by first | rfl | (simp; done) | (simp [*]; done), HB.out⟩
      · have H := HH.out
        rw [if_neg c229] at H
        replace HH := Aside0.mk H
        clear H
        have hk545 : (t61 == 0) = false := beq_eq_false_iff_ne.mpr c229
        have hk546 : (t61 != 0) = true := bne_iff_ne.mpr c229
        clear c229
        have H := HH.out
        obtain rfl := Option.some.inj H
        clear HH
        go_wp2
        go_ret
        exact ⟨by first | rfl | (simp; done) | (simp [*]; done), HB.out⟩
    · have H := HH.out
      rw [if_neg c226] at H
      replace HH := Aside0.mk H
      clear H
      have hk547 : (t60 == a1) = false := beq_eq_false_iff_ne.mpr c226
      have hk548 : (t60 != a1) = true := bne_iff_ne.mpr c226
      clear c226
      have H := HH.out
      obtain rfl := Option.some.inj H
      clear HH
      go_wp2
      go_ret
      exact ⟨by first | rfl | (simp; done) | (simp [*]; done), HB.out⟩
  · have H := HH.out
    rw [if_neg c53] at H
    replace HH := Aside0.mk H
    clear H
    have hk549 : (t12 == 0) = false := beq_eq_false_iff_ne.mpr c53
    have hk550 : (t12 != 0) = true := bne_iff_ne.mpr c53
    clear c53
    have H := HH.out
    replace H := Option.bind_eq_some_iff.mp H
    obtain ⟨⟨t551, t552, t553, t554, t555, t556⟩, at_, H⟩ := H
    have At557 := Aside0.mk at_
    clear at_
    replace HH := Aside0.mk (show (if t556 = 0 then ((prims_AsBool.f t551 t552 t553 t554 t555).bind fun bt634 => (if (bt634.1 == a2) = true then (if bt634.2 = 0 then ((prims_Is.f t551 t552 t553 t554 t555 a0_0 a0_1 false).bind fun t669 => (if t669 = true then ((toponymlaw16_awake.f k ).bind fun t697 => (some t697)) else (some false))) else (some false)) else (some false))) else (if t556 = 2 then ((toponymlaw16_awake.f k ).bind fun t735 => (some t735)) else (some false))) = some r from H)
    clear H
    go_wp2_with (((with_reducible refine gate_callee (f := 17) rfl ?_); (try (refine gate_guard (by rfl) ?_; dsimp only)); refine goesL_ (some 96) rfl rfl Try.func17 (by kernel_rfl) rfl #[.int .i64 a0_0, .int .i64 a0_1, .bool a2] rfl (by (try simp only [List.map_toArray, List.map_cons, List.map_nil]); first | done | rfl | (simp only [List.length_drop, List.length_take]; rfl)) ?_; (with_reducible refine (prims_Bool.calls  a0_0 a0_1 a2 t551 t552 t553 t554 t555 t556 _  At557.out).mono ?_); rintro e w558 ⟨v559, rfl, hn559, hb⟩; refine ⟨_, rfl, ?_⟩); refine stop_ ?_)
    refine Stop.go ?_
    have hba := Kd.N_base hn559
    have HN559 := Aside0.mk (Kd.N_mono (Kd.N_lower hn559 (below_size HB.out)) (fun k_ h_ => ⟨(Nat.le_trans (below_size HB.out) h_), Kd.fresh' (Kd.N_lt HN15.out) k_ h_, Kd.freshB (o := .cells #[.int .i64 a0_0, .int .i64 a0_1] 23 (0, 0)) BKg1.out k_ h_, Kd.freshB (o := .cells #[.int .i64 t7, .bool t8, .int .i64 t9, .string t10, (.slice A37 t11.length cp38)] 28 (0, 0)) BKg20.out k_ h_⟩) : Kd.N k28 28 w558 w.heap.size (fun k_ => (w.heap.size ≤ k_) ∧ some k_ ≠ ((.slice A37 t11.length cp38) : Value).ownBlock ∧ k_ ≠ g1 ∧ k_ ≠ g20) v559 t555)
    replace HN15 := Aside0.mk (Kd.N_mono (Kd.N_elder' (ok := (fun k_ => (w.heap.size ≤ k_) ∧ k_ ≠ g1 ∧ k_ ≠ g20)) HN15.out hba hb) (fun k_ hk_ => ⟨hk_.1.1, hk_.1.2.1, hk_.1.2.2, hk_.2⟩) : Kd.N k28 _ _ _ (fun k_ => (w.heap.size ≤ k_) ∧ k_ ≠ g1 ∧ k_ ≠ g20 ∧ some k_ ≠ (v559 : Value).ownBlock) _ _)
    replace BKg1 := Aside0.mk (blk_below (o := .cells #[.int .i64 a0_0, .int .i64 a0_1] 23 (0, 0)) BKg1.out hb)
    replace BKg20 := Aside0.mk (blk_below (o := .cells #[.int .i64 t7, .bool t8, .int .i64 t9, .string t10, (.slice A37 t11.length cp38)] 28 (0, 0)) BKg20.out hb)
    replace HB := Aside0.mk (below_step HB.out hb)
    clear hn559 hba hb
    clear hz39 hz40 hf41 hf42 hz43 hz44 hz45 hz46 hz47 hf48 hf49 hf50 hf51 hf52
    obtain ⟨hz560, hz561, hf562, hf563⟩ := MB.lay2 BKg1.out
    obtain ⟨hz564, hz565, hz566, hz567, hz568, hf569, hf570, hf571, hf572, hf573⟩ := MB.lay5 BKg20.out
    go_wp2_with (((with_reducible refine gate_dst (N := 18) rfl ?_); (try (refine gate_guard (by rfl) ?_; dsimp only)); refine box_event ?hg (N := 18) ?hd (cs := #[.int .i64 0, .bool false, .int .i64 0, .string (⟨#[]⟩ : ByteArray), .slice none 0 0]) (t := 28) ?hr ?_; (case hd => rfl); (case hg => rfl); (case hr => first | (go_simp; done) | (go_simp; rfl)); intro g574 hg w575 hbox hb); replace hg := Aside0.mk hg; replace hbox := Aside0.mk hbox; refine stop_ ?_)
    refine Stop.go ?_
    replace hg := hg.out
    replace hbox := hbox.out
    have GEg574 := Aside0.mk (by rw [hg]; exact (below_size HB.out) : w.heap.size ≤ g574)
    replace HN15 := Aside0.mk (Kd.N_elderB HN15.out g574 (Nat.le_of_eq hg.symm))
    replace HN15 := Aside0.mk (Kd.N_mono HN15.out (fun k_ hk_ => ⟨hk_.1.1, hk_.1.2.1, hk_.1.2.2.1, hk_.1.2.2.2, hk_.2⟩) : Kd.N k28 _ _ _ (fun k_ => (w.heap.size ≤ k_) ∧ k_ ≠ g1 ∧ k_ ≠ g20 ∧ some k_ ≠ (v559 : Value).ownBlock ∧ k_ ≠ g574) _ _)
    replace HN559 := Aside0.mk (Kd.N_elderB HN559.out g574 (Nat.le_of_eq hg.symm))
    replace HN559 := Aside0.mk (Kd.N_mono HN559.out (fun k_ hk_ => ⟨hk_.1.1, hk_.1.2.1, hk_.1.2.2.1, hk_.1.2.2.2, hk_.2⟩) : Kd.N k28 _ _ _ (fun k_ => (w.heap.size ≤ k_) ∧ some k_ ≠ ((.slice A37 t11.length cp38) : Value).ownBlock ∧ k_ ≠ g1 ∧ k_ ≠ g20 ∧ k_ ≠ g574) _ _)
    have NEg1_g574 := Aside0.mk (by rw [hg]; exact Nat.ne_of_lt (blk_lt (o := .cells #[.int .i64 a0_0, .int .i64 a0_1] 23 (0, 0)) BKg1.out) : g1 ≠ g574)
    have NEg574_g1 := Aside0.mk (Ne.symm NEg1_g574.out)
    have NEg20_g574 := Aside0.mk (by rw [hg]; exact Nat.ne_of_lt (blk_lt (o := .cells #[.int .i64 t7, .bool t8, .int .i64 t9, .string t10, (.slice A37 t11.length cp38)] 28 (0, 0)) BKg20.out) : g20 ≠ g574)
    have NEg574_g20 := Aside0.mk (Ne.symm NEg20_g574.out)
    replace HN15 := Aside0.mk (Kd.N_below HN15.out hb)
    replace HN559 := Aside0.mk (Kd.N_below HN559.out hb)
    replace BKg1 := Aside0.mk (blk_below (o := .cells #[.int .i64 a0_0, .int .i64 a0_1] 23 (0, 0)) BKg1.out hb)
    replace BKg20 := Aside0.mk (blk_below (o := .cells #[.int .i64 t7, .bool t8, .int .i64 t9, .string t10, (.slice A37 t11.length cp38)] 28 (0, 0)) BKg20.out hb)
    replace HB := Aside0.mk (below_step HB.out hb)
    have BKg574 := Aside0.mk hbox
    clear hg hbox hb
    clear hz560 hz561 hf562 hf563 hz564 hz565 hz566 hz567 hz568 hf569 hf570 hf571 hf572 hf573
    obtain ⟨hz576, hz577, hf578, hf579⟩ := MB.lay2 BKg1.out
    obtain ⟨hz580, hz581, hz582, hz583, hz584, hf585, hf586, hf587, hf588, hf589⟩ := MB.lay5 BKg20.out
    obtain ⟨hz590, hz591, hz592, hz593, hz594, hf595, hf596, hf597, hf598, hf599⟩ := MB.lay5 BKg574.out
    obtain ⟨A601, cp602, he_⟩ := Kd.N_slice HN559.out
    subst he_
    go_wp2_with (((with_reducible refine gate_store (t := 28) (p := 18) rfl ?_); (try (refine gate_guard (by rfl) ?_; dsimp only)); refine MW.ev_store #[.int .i64 t551, .bool t552, .int .i64 t553, .string t554, (.slice A601 t555.length cp602)] rfl rfl rfl rfl (cs := #[.int .i64 0, .bool false, .int .i64 0, .string (⟨#[]⟩ : ByteArray), .slice none 0 0]) (ty := 28) BKg574.out [.int .i64 t551, .bool t552, .int .i64 t553, .string t554, (.slice A601 t555.length cp602)] rfl (by kernel_rfl) (by simp) (by simp [Value.oneCell']) rfl ?_; intro w600 hbk hg); replace hbk := Aside0.mk hbk; refine stop_ ?_)
    refine Stop.go ?_
    replace hbk := hbk.out
    replace HN15 := Aside0.mk (Kd.N_grown (ok := (fun k_ => (w.heap.size ≤ k_) ∧ k_ ≠ g1 ∧ k_ ≠ g20 ∧ some k_ ≠ ((.slice A601 t555.length cp602) : Value).ownBlock ∧ k_ ≠ g574)) HN15.out hg (fun k_ hk_ he_ => hk_.2.2.2.2 (Option.some.inj he_)))
    replace HN559 := Aside0.mk (Kd.N_grown (ok := (fun k_ => (w.heap.size ≤ k_) ∧ some k_ ≠ ((.slice A37 t11.length cp38) : Value).ownBlock ∧ k_ ≠ g1 ∧ k_ ≠ g20 ∧ k_ ≠ g574)) HN559.out hg (fun k_ hk_ he_ => hk_.2.2.2.2 (Option.some.inj he_)))
    replace BKg1 := Aside0.mk (blk_grown (o := .cells #[.int .i64 a0_0, .int .i64 a0_1] 23 (0, 0)) BKg1.out hg (fun he_ => NEg1_g574.out (Option.some.inj he_)))
    replace BKg20 := Aside0.mk (blk_grown (o := .cells #[.int .i64 t7, .bool t8, .int .i64 t9, .string t10, (.slice A37 t11.length cp38)] 28 (0, 0)) BKg20.out hg (fun he_ => NEg20_g574.out (Option.some.inj he_)))
    replace HB := Aside0.mk (Below.grown HB.out hg (below_size HB.out) (fun k_ hk_ => by injection hk_ with hk_; rw [← hk_]; exact GEg574.out))
    replace BKg574 := Aside0.mk hbk
    clear hg hbk
    clear hz576 hz577 hf578 hf579 hz580 hz581 hz582 hz583 hz584 hf585 hf586 hf587 hf588 hf589 hz590 hz591 hz592 hz593 hz594 hf595 hf596 hf597 hf598 hf599
    obtain ⟨hz603, hz604, hf605, hf606⟩ := MB.lay2 BKg1.out
    obtain ⟨hz607, hz608, hz609, hz610, hz611, hf612, hf613, hf614, hf615, hf616⟩ := MB.lay5 BKg20.out
    obtain ⟨hz617, hz618, hz619, hz620, hz621, hf622, hf623, hf624, hf625, hf626⟩ := MB.lay5 BKg574.out
    by_cases c627 : t556 = 0
    · have H := HH.out
      rw [if_pos c627] at H
      replace HH := Aside0.mk H
      clear H
      have hk628 : (t556 == 0) = true := beq_iff_eq.mpr c627
      have hk629 : (t556 != 0) = false := bne_eq_false_iff_eq.mpr c627
      clear c627
      have HL633 := Aside0.mk (Kd.N_reads' HN559.out).2.1
      have HF632 := Aside0.mk (Kd.N_F HN559.out)
      clear HN559
      replace HN15 := Aside0.mk (Kd.N_mono (ok := (fun k_ => (w.heap.size ≤ k_) ∧ k_ ≠ g1 ∧ k_ ≠ g20 ∧ some k_ ≠ ((.slice A601 t555.length cp602) : Value).ownBlock ∧ k_ ≠ g574)) HN15.out (fun k_ hk_ => ⟨hk_.1, hk_.2.1, hk_.2.2.1, hk_.2.2.2.2⟩) : Kd.N k28 _ _ _ (fun k_ => (w.heap.size ≤ k_) ∧ k_ ≠ g1 ∧ k_ ≠ g20 ∧ k_ ≠ g574) _ _)
      have H := HH.out
      replace H := Option.bind_eq_some_iff.mp H
      obtain ⟨⟨t634, t635⟩, at_, H⟩ := H
      have At636 := Aside0.mk at_
      clear at_
      replace HH := Aside0.mk (show (if (t634 == a2) = true then (if t635 = 0 then ((prims_Is.f t551 t552 t553 t554 t555 a0_0 a0_1 false).bind fun t669 => (if t669 = true then ((toponymlaw16_awake.f k ).bind fun t697 => (some t697)) else (some false))) else (some false)) else (some false)) = some r from H)
      clear H
      go_wp2_with (((with_reducible refine gate_callee (f := 22) rfl ?_); (try (refine gate_guard (by rfl) ?_; dsimp only)); refine goesL_ (some 108) rfl rfl Try.func22 (by kernel_rfl) rfl #[.agg #[.int .i64 t551, .bool t552, .int .i64 t553, .string t554, .slice A601 t555.length cp602]] rfl (by (try simp only [List.map_toArray, List.map_cons, List.map_nil]); first | done | rfl | (simp only [List.length_drop, List.length_take]; rfl)) ?_; (with_reducible refine (prims_AsBool.calls (fun k_ => (w.heap.size ≤ k_) ∧ some k_ ≠ ((.slice A37 t11.length cp38) : Value).ownBlock ∧ k_ ≠ g1 ∧ k_ ≠ g20 ∧ k_ ≠ g574) t551 t552 t553 t554 _ _ t555 t634 t635 _ (Kd.F_mono (ok := (fun k_ => (w.heap.size ≤ k_) ∧ some k_ ≠ ((.slice A37 t11.length cp38) : Value).ownBlock ∧ k_ ≠ g1 ∧ k_ ≠ g20 ∧ k_ ≠ g574)) HF632.out (fun k_ hk_ => ⟨hk_.1, hk_.2.1, hk_.2.2.1, hk_.2.2.2.1, hk_.2.2.2.2⟩)) HL633.out At636.out).mono ?_); rintro e w637 ⟨rfl, hb⟩; refine ⟨_, rfl, ?_⟩); refine stop_ ?_)
      refine Stop.go ?_
      replace HF632 := Aside0.mk (Kd.F_below HF632.out hb)
      replace HN15 := Aside0.mk (Kd.N_below HN15.out hb)
      replace BKg1 := Aside0.mk (blk_below (o := .cells #[.int .i64 a0_0, .int .i64 a0_1] 23 (0, 0)) BKg1.out hb)
      replace BKg20 := Aside0.mk (blk_below (o := .cells #[.int .i64 t7, .bool t8, .int .i64 t9, .string t10, (.slice A37 t11.length cp38)] 28 (0, 0)) BKg20.out hb)
      replace BKg574 := Aside0.mk (blk_below (o := .cells #[.int .i64 t551, .bool t552, .int .i64 t553, .string t554, .slice A601 t555.length cp602] 28 (0, 0)) BKg574.out hb)
      replace HB := Aside0.mk (below_step HB.out hb)
      clear hb
      clear hz603 hz604 hf605 hf606 hz607 hz608 hz609 hz610 hz611 hf612 hf613 hf614 hf615 hf616 hz617 hz618 hz619 hz620 hz621 hf622 hf623 hf624 hf625 hf626
      obtain ⟨hz638, hz639, hf640, hf641⟩ := MB.lay2 BKg1.out
      obtain ⟨hz642, hz643, hz644, hz645, hz646, hf647, hf648, hf649, hf650, hf651⟩ := MB.lay5 BKg20.out
      obtain ⟨hz652, hz653, hz654, hz655, hz656, hf657, hf658, hf659, hf660, hf661⟩ := MB.lay5 BKg574.out
      by_cases c662 : (t634 == a2) = true
      · have H := HH.out
        rw [if_pos c662] at H
        replace HH := Aside0.mk H
        clear H
        have hk663 : (t634 == a2) = true := c662
        try have hk664 : decide (t634 = a2) = true := by simpa using c662
        try have hk665 : (t634 == a2) = true := by simpa using c662
        clear c662
        by_cases c666 : t635 = 0
        · have H := HH.out
          rw [if_pos c666] at H
          replace HH := Aside0.mk H
          clear H
          have hk667 : (t635 == 0) = true := beq_iff_eq.mpr c666
          have hk668 : (t635 != 0) = false := bne_eq_false_iff_eq.mpr c666
          clear c666
          have H := HH.out
          replace H := Option.bind_eq_some_iff.mp H
          obtain ⟨t669, at_, H⟩ := H
          have At670 := Aside0.mk at_
          clear at_
          replace HH := Aside0.mk (show (if t669 = true then ((toponymlaw16_awake.f k ).bind fun t697 => (some t697)) else (some false)) = some r from H)
          clear H
          go_wp2_with (((with_reducible refine gate_callee (f := 13) rfl ?_); (try (refine gate_guard (by rfl) ?_; dsimp only)); refine goesL_ (some 124) rfl rfl Try.func13 (by kernel_rfl) rfl #[.agg #[.int .i64 t551, .bool t552, .int .i64 t553, .string t554, .slice A601 t555.length cp602], .int .i64 a0_0, .int .i64 a0_1, .bool false] rfl (by (try simp only [List.map_toArray, List.map_cons, List.map_nil]); first | done | rfl | (simp only [List.length_drop, List.length_take]; rfl)) ?_; (with_reducible refine (prims_Is.calls (fun k_ => (w.heap.size ≤ k_) ∧ some k_ ≠ ((.slice A37 t11.length cp38) : Value).ownBlock ∧ k_ ≠ g1 ∧ k_ ≠ g20 ∧ k_ ≠ g574) t551 t552 t553 t554 _ _ t555 a0_0 a0_1 false t669 _ (Kd.F_mono (ok := (fun k_ => (w.heap.size ≤ k_) ∧ some k_ ≠ ((.slice A37 t11.length cp38) : Value).ownBlock ∧ k_ ≠ g1 ∧ k_ ≠ g20 ∧ k_ ≠ g574)) HF632.out (fun k_ hk_ => ⟨hk_.1, hk_.2.1, hk_.2.2.1, hk_.2.2.2.1, hk_.2.2.2.2⟩)) HL633.out At670.out).mono ?_); rintro e w671 ⟨rfl, hb⟩; refine ⟨_, rfl, ?_⟩); refine stop_ ?_)
          refine Stop.go ?_
          replace HF632 := Aside0.mk (Kd.F_below HF632.out hb)
          replace HN15 := Aside0.mk (Kd.N_below HN15.out hb)
          replace BKg1 := Aside0.mk (blk_below (o := .cells #[.int .i64 a0_0, .int .i64 a0_1] 23 (0, 0)) BKg1.out hb)
          replace BKg20 := Aside0.mk (blk_below (o := .cells #[.int .i64 t7, .bool t8, .int .i64 t9, .string t10, (.slice A37 t11.length cp38)] 28 (0, 0)) BKg20.out hb)
          replace BKg574 := Aside0.mk (blk_below (o := .cells #[.int .i64 t551, .bool t552, .int .i64 t553, .string t554, .slice A601 t555.length cp602] 28 (0, 0)) BKg574.out hb)
          replace HB := Aside0.mk (below_step HB.out hb)
          clear hb
          clear hz638 hz639 hf640 hf641 hz642 hz643 hz644 hz645 hz646 hf647 hf648 hf649 hf650 hf651 hz652 hz653 hz654 hz655 hz656 hf657 hf658 hf659 hf660 hf661
          obtain ⟨hz672, hz673, hf674, hf675⟩ := MB.lay2 BKg1.out
          obtain ⟨hz676, hz677, hz678, hz679, hz680, hf681, hf682, hf683, hf684, hf685⟩ := MB.lay5 BKg20.out
          obtain ⟨hz686, hz687, hz688, hz689, hz690, hf691, hf692, hf693, hf694, hf695⟩ := MB.lay5 BKg574.out
          by_cases c696 : t669 = true
          · have H := HH.out
            rw [if_pos c696] at H
            replace HH := Aside0.mk H
            clear H
            subst c696
            have H := HH.out
            replace H := Option.bind_eq_some_iff.mp H
            obtain ⟨t697, at_, H⟩ := H
            have At698 := Aside0.mk at_
            clear at_
            replace HH := Aside0.mk (show (some t697) = some r from H)
            clear H
            go_wp2_with (((with_reducible refine gate_callee (f := 8) rfl ?_); (try (refine gate_guard (by rfl) ?_; dsimp only)); refine goesL_ (some 127) rfl rfl Try.func8 (by kernel_rfl) rfl #[] rfl (by (try simp only [List.map_toArray, List.map_cons, List.map_nil]); first | done | rfl | (simp only [List.length_drop, List.length_take]; rfl)) ?_; (with_reducible refine (toponymlaw16_awake.calls k  t697 _  At698.out).mono ?_); rintro e w699 ⟨rfl, hb⟩; refine ⟨_, rfl, ?_⟩); refine stop_ ?_)
            refine Stop.go ?_
            replace HF632 := Aside0.mk (Kd.F_below HF632.out hb)
            replace HN15 := Aside0.mk (Kd.N_below HN15.out hb)
            replace BKg1 := Aside0.mk (blk_below (o := .cells #[.int .i64 a0_0, .int .i64 a0_1] 23 (0, 0)) BKg1.out hb)
            replace BKg20 := Aside0.mk (blk_below (o := .cells #[.int .i64 t7, .bool t8, .int .i64 t9, .string t10, (.slice A37 t11.length cp38)] 28 (0, 0)) BKg20.out hb)
            replace BKg574 := Aside0.mk (blk_below (o := .cells #[.int .i64 t551, .bool t552, .int .i64 t553, .string t554, .slice A601 t555.length cp602] 28 (0, 0)) BKg574.out hb)
            replace HB := Aside0.mk (below_step HB.out hb)
            clear hb
            clear hz672 hz673 hf674 hf675 hz676 hz677 hz678 hz679 hz680 hf681 hf682 hf683 hf684 hf685 hz686 hz687 hz688 hz689 hz690 hf691 hf692 hf693 hf694 hf695
            obtain ⟨hz700, hz701, hf702, hf703⟩ := MB.lay2 BKg1.out
            obtain ⟨hz704, hz705, hz706, hz707, hz708, hf709, hf710, hf711, hf712, hf713⟩ := MB.lay5 BKg20.out
            obtain ⟨hz714, hz715, hz716, hz717, hz718, hf719, hf720, hf721, hf722, hf723⟩ := MB.lay5 BKg574.out
            have H := HH.out
            obtain rfl := Option.some.inj H
            clear HH
            go_wp2
            go_ret
            exact ⟨by first | rfl | (simp; done) | (simp [*]; done), HB.out⟩
          · have H := HH.out
            rw [if_neg c696] at H
            replace HH := Aside0.mk H
            clear H
            replace c696 := Bool.eq_false_iff.mpr c696
            subst c696
            have H := HH.out
            obtain rfl := Option.some.inj H
            clear HH
            go_wp2
            go_ret
            exact ⟨by first | rfl | (simp; done) | (simp [*]; done), HB.out⟩
        · have H := HH.out
          rw [if_neg c666] at H
          replace HH := Aside0.mk H
          clear H
          have hk724 : (t635 == 0) = false := beq_eq_false_iff_ne.mpr c666
          have hk725 : (t635 != 0) = true := bne_iff_ne.mpr c666
          clear c666
          have H := HH.out
          obtain rfl := Option.some.inj H
          clear HH
          go_wp2
          go_ret
          exact ⟨by first | rfl | (simp; done) | (simp [*]; done), HB.out⟩
      · have H := HH.out
        rw [if_neg c662] at H
        replace HH := Aside0.mk H
        clear H
        have hk726 : (t634 == a2) = false := by simpa using c662
        try have hk727 : decide (t634 = a2) = false := by simpa using c662
        try have hk728 : (t634 == a2) = false := by simpa using c662
        try have hk729 : ¬ (t634 = a2) := by simpa using c662
        clear c662
        have H := HH.out
        obtain rfl := Option.some.inj H
        clear HH
        go_wp2
        go_ret
        exact ⟨by first | rfl | (simp; done) | (simp [*]; done), HB.out⟩
    · have H := HH.out
      rw [if_neg c627] at H
      replace HH := Aside0.mk H
      clear H
      have hk730 : (t556 == 0) = false := beq_eq_false_iff_ne.mpr c627
      have hk731 : (t556 != 0) = true := bne_iff_ne.mpr c627
      clear c627
      by_cases c732 : t556 = 2
      · have H := HH.out
        rw [if_pos c732] at H
        replace HH := Aside0.mk H
        clear H
        have hk733 : (t556 == 2) = true := beq_iff_eq.mpr c732
        have hk734 : (t556 != 2) = false := bne_eq_false_iff_eq.mpr c732
        clear c732
        have H := HH.out
        replace H := Option.bind_eq_some_iff.mp H
        obtain ⟨t735, at_, H⟩ := H
        have At736 := Aside0.mk at_
        clear at_
        replace HH := Aside0.mk (show (some t735) = some r from H)
        clear H
        go_wp2_with (((with_reducible refine gate_callee (f := 8) rfl ?_); (try (refine gate_guard (by rfl) ?_; dsimp only)); refine goesL_ (some 104) rfl rfl Try.func8 (by kernel_rfl) rfl #[] rfl (by (try simp only [List.map_toArray, List.map_cons, List.map_nil]); first | done | rfl | (simp only [List.length_drop, List.length_take]; rfl)) ?_; (with_reducible refine (toponymlaw16_awake.calls k  t735 _  At736.out).mono ?_); rintro e w737 ⟨rfl, hb⟩; refine ⟨_, rfl, ?_⟩); refine stop_ ?_)
        refine Stop.go ?_
        replace HN15 := Aside0.mk (Kd.N_below HN15.out hb)
        replace HN559 := Aside0.mk (Kd.N_below HN559.out hb)
        replace BKg1 := Aside0.mk (blk_below (o := .cells #[.int .i64 a0_0, .int .i64 a0_1] 23 (0, 0)) BKg1.out hb)
        replace BKg20 := Aside0.mk (blk_below (o := .cells #[.int .i64 t7, .bool t8, .int .i64 t9, .string t10, (.slice A37 t11.length cp38)] 28 (0, 0)) BKg20.out hb)
        replace BKg574 := Aside0.mk (blk_below (o := .cells #[.int .i64 t551, .bool t552, .int .i64 t553, .string t554, (.slice A601 t555.length cp602)] 28 (0, 0)) BKg574.out hb)
        replace HB := Aside0.mk (below_step HB.out hb)
        clear hb
        clear hz603 hz604 hf605 hf606 hz607 hz608 hz609 hz610 hz611 hf612 hf613 hf614 hf615 hf616 hz617 hz618 hz619 hz620 hz621 hf622 hf623 hf624 hf625 hf626
        obtain ⟨hz738, hz739, hf740, hf741⟩ := MB.lay2 BKg1.out
        obtain ⟨hz742, hz743, hz744, hz745, hz746, hf747, hf748, hf749, hf750, hf751⟩ := MB.lay5 BKg20.out
        obtain ⟨hz752, hz753, hz754, hz755, hz756, hf757, hf758, hf759, hf760, hf761⟩ := MB.lay5 BKg574.out
        have H := HH.out
        obtain rfl := Option.some.inj H
        clear HH
        go_wp2
        go_ret
        exact ⟨by first | rfl | (simp; done) | (simp [*]; done), HB.out⟩
      · have H := HH.out
        rw [if_neg c732] at H
        replace HH := Aside0.mk H
        clear H
        have hk762 : (t556 == 2) = false := beq_eq_false_iff_ne.mpr c732
        have hk763 : (t556 != 2) = true := bne_iff_ne.mpr c732
        clear c732
        have H := HH.out
        obtain rfl := Option.some.inj H
        clear HH
        go_wp2
        go_ret
        exact ⟨by first | rfl | (simp; done) | (simp [*]; done), HB.out⟩

end Go.Proofs.Ytliackbiljhioaa.GA
