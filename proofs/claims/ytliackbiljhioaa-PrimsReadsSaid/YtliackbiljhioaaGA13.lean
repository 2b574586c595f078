-- written by wip/gen.py, a program of this session
import Derived.Test.YtliackbiljhioaaGA0
import Derived.Test.YtliackbiljhioaaGA6
import Derived.Test.YtliackbiljhioaaGA7
import Derived.Test.YtliackbiljhioaaGA9
namespace Go.Proofs.Ytliackbiljhioaa.GA
open Go.RowKit Go.Proofs.Ytliackbiljhioaa Go.Proofs.Ytliackbiljhioaa.MW Go.Proofs.YtliackbiljhioaaW.PrintWords Go.Proofs.YtliackbiljhioaaW.PrintLast Go.Proofs.YtliackbiljhioaaW.PrintMore
attribute [local go_sem] max2_int min2_int max_two min_two
set_option linter.unusedVariables false
set_option linter.unusedSimpArgs false

/-! ### toponymlaw16_PrimsForms: function 4 -/
def toponymlaw16_PrimsForms.f (k : Nat) (a0 : ByteArray) : Option (Bool) := (prims_AsInt.f k 0 false 0 a0 ([] : List (S28))).bind fun bt1 => (if bt1.2 = 0 then ((prims_Int.f k 0 2 bt1.1).bind fun bt8 => (if bt8.2.2.2.1.toList = a0.toList then (if bt8.2.2.2.2.2 = 0 then ((toponymlaw16_awake.f k ).bind fun t46 => (some t46)) else (some false)) else (some false))) else (if bt1.1 = 0 then (if bt1.2 = 160 then ((toponymlaw16_awake.f k ).bind fun t71 => (some t71)) else (some false)) else (some false)))
theorem toponymlaw16_PrimsForms.mono : ∀ a0_ k, LeO (toponymlaw16_PrimsForms.f k a0_) (toponymlaw16_PrimsForms.f (k + 1) a0_) := by
  intro a0_ k
  unfold toponymlaw16_PrimsForms.f
  repeat' first
      | (with_reducible exact prims_AsInt.mono _ _ _ _ _ _)
      | (with_reducible exact prims_Int.mono _ _ _ _)
      | (with_reducible exact toponymlaw16_awake.mono _)
      | (with_reducible exact LeO.refl _)
      | (with_reducible exact LeO.none _)
      | (with_reducible refine LeO.ite ?_ ?_)
      | (with_reducible refine LeO.bind ?_ (fun _ => ?_))
      | exact prims_AsInt.mono _ _ _ _ _ _
      | exact prims_Int.mono _ _ _ _
      | exact toponymlaw16_awake.mono _
      | exact LeO.none _
      | refine LeO.ite ?_ ?_
      | refine LeO.bind ?_ (fun _ => ?_)
set_option maxHeartbeats 8000000 in
set_option maxRecDepth 100000 in
theorem toponymlaw16_PrimsForms.calls (k : Nat) (a0 : ByteArray) (r : Bool) (w : World) (h : toponymlaw16_PrimsForms.f k a0 = some r) :
    Calls Try.prog 4 #[.string a0] w fun e w' => e = .returned (.bool r) ∧ Below w.heap.size w w' := by
  have HH := Aside0.mk (show ((prims_AsInt.f k 0 false 0 a0 ([] : List (S28))).bind fun bt1 => (if bt1.2 = 0 then ((prims_Int.f k 0 2 bt1.1).bind fun bt8 => (if bt8.2.2.2.1.toList = a0.toList then (if bt8.2.2.2.2.2 = 0 then ((toponymlaw16_awake.f k ).bind fun t46 => (some t46)) else (some false)) else (some false))) else (if bt1.1 = 0 then (if bt1.2 = 160 then ((toponymlaw16_awake.f k ).bind fun t71 => (some t71)) else (some false)) else (some false)))) = some r from h)
  clear h
  have HB := Aside0.mk (Below.refl w.heap.size w)
  have hu28 := Try.underlying28
  go_enter Try.func4, Try.ntmps4
  have H := HH.out
  replace H := Option.bind_eq_some_iff.mp H
  obtain ⟨⟨t1, t2⟩, at_, H⟩ := H
  have At3 := Aside0.mk at_
  clear at_
  replace HH := Aside0.mk (show (if t2 = 0 then ((prims_Int.f k 0 2 t1).bind fun bt8 => (if bt8.2.2.2.1.toList = a0.toList then (if bt8.2.2.2.2.2 = 0 then ((toponymlaw16_awake.f k ).bind fun t46 => (some t46)) else (some false)) else (some false))) else (if t1 = 0 then (if t2 = 160 then ((toponymlaw16_awake.f k ).bind fun t71 => (some t71)) else (some false)) else (some false))) = some r from H)
  clear H
  go_wp2_with (((with_reducible refine gate_callee (f := 14) rfl ?_); (try (refine gate_guard (by rfl) ?_; dsimp only)); refine goesL_ (some 10) rfl rfl Try.func14 (by kernel_rfl) rfl #[.agg #[.int .i64 0, .bool false, .int .i64 0, .string a0, .slice none 0 0]] rfl (by (try simp only [List.map_toArray, List.map_cons, List.map_nil]); first | done | rfl | (simp only [List.length_drop, List.length_take]; rfl)) ?_; (refine (prims_AsInt.calls k (fun k_ => (w.heap.size ≤ k_)) 0 false 0 a0 _ _ ([] : List (S28)) t1 t2 _ (Kd.F_nil _ _ _) (Nat.le_refl _) At3.out).mono ?_); rintro e w4 ⟨rfl, hb⟩; refine ⟨_, rfl, ?_⟩); refine stop_ ?_)
  refine Stop.go ?_
  replace HB := Aside0.mk (below_step (by repeat (first | (with_reducible first | exact HB.out | apply below_alloc | apply pw_below_drewN | apply below_drew1) | exact HB.out)) hb)
  clear hb
  by_cases c5 : t2 = 0
  · have H := HH.out
    rw [if_pos c5] at H
    replace HH := Aside0.mk H
    clear H
    have hk6 : (t2 == 0) = true := beq_iff_eq.mpr c5
    have hk7 : (t2 != 0) = false := bne_eq_false_iff_eq.mpr c5
    clear c5
    have H := HH.out
    replace H := Option.bind_eq_some_iff.mp H
    obtain ⟨⟨t8, t9, t10, t11, t12, t13⟩, at_, H⟩ := H
    have At14 := Aside0.mk at_
    clear at_
    replace HH := Aside0.mk (show (if t11.toList = a0.toList then (if t13 = 0 then ((toponymlaw16_awake.f k ).bind fun t46 => (some t46)) else (some false)) else (some false)) = some r from H)
    clear H
    go_wp2_with (((with_reducible refine gate_callee (f := 15) rfl ?_); (try (refine gate_guard (by rfl) ?_; dsimp only)); refine goesL_ (some 26) rfl rfl Try.func15 (by kernel_rfl) rfl #[.int .i64 0, .int .i64 2, .int .i64 t1] rfl (by (try simp only [List.map_toArray, List.map_cons, List.map_nil]); first | done | rfl | (simp only [List.length_drop, List.length_take]; rfl)) ?_; (with_reducible refine (prims_Int.calls k  0 2 t1 t8 t9 t10 t11 t12 t13 _  At14.out).mono ?_); rintro e w15 ⟨v16, rfl, hn16, hb⟩; refine ⟨_, rfl, ?_⟩); refine stop_ ?_)
    refine Stop.go ?_
    obtain ⟨A16, cp16, he_⟩ := Kd.N_slice hn16
    subst he_
    have HL16 := Aside0.mk (Kd.N_reads' hn16).2.1
    have HF16 := Aside0.mk (Kd.F_mono (Kd.N_F hn16) (fun k_ h_ => (Nat.le_trans (below_size (by repeat (first | (with_reducible first | exact HB.out | apply below_alloc | apply pw_below_drewN | apply below_drew1) | exact HB.out))) h_)) : Kd.F k28 _ (fun k_ => (w.heap.size ≤ k_)) _ _ _)
    clear hn16
    replace HB := Aside0.mk (below_step (by repeat (first | (with_reducible first | exact HB.out | apply below_alloc | apply pw_below_drewN | apply below_drew1) | exact HB.out)) hb)
    clear hb
    go_wp2_with (((with_reducible refine gate_dst (N := 5) rfl ?_); (try (refine gate_guard (by rfl) ?_; dsimp only)); refine box_event ?hg (N := 5) ?hd (cs := #[.int .i64 0, .bool false, .int .i64 0, .string (⟨#[]⟩ : ByteArray), .slice none 0 0]) (t := 28) ?hr ?_; (case hd => rfl); (case hg => rfl); (case hr => first | (go_simp; done) | (go_simp; rfl)); intro g17 hg w18 hbox hb); replace hg := Aside0.mk hg; replace hbox := Aside0.mk hbox; refine stop_ ?_)
    refine Stop.go ?_
    replace hg := hg.out
    replace hbox := hbox.out
    have GEg17 := Aside0.mk (by rw [hg]; exact (below_size (by repeat (first | (with_reducible first | exact HB.out | apply below_alloc | apply pw_below_drewN | apply below_drew1) | exact HB.out))) : w.heap.size ≤ g17)
    replace HF16 := Aside0.mk (Kd.F_elderB (by (with_reducible repeat (first | apply Kd.F_alloc | apply Kd.F_drewN | apply Kd.F_drew)); exact HF16.out) g17 (Nat.le_of_eq hg.symm))
    replace HF16 := Aside0.mk (Kd.F_mono HF16.out (fun k_ hk_ => ⟨hk_.1, hk_.2⟩) : Kd.F k28 _ (fun k_ => (w.heap.size ≤ k_) ∧ k_ ≠ g17) _ _ _)
    replace HF16 := Aside0.mk (Kd.F_below (by (with_reducible repeat (first | apply Kd.F_alloc | apply Kd.F_drewN | apply Kd.F_drew)); exact HF16.out) hb)
    replace HB := Aside0.mk (below_step (by repeat (first | (with_reducible first | exact HB.out | apply below_alloc | apply pw_below_drewN | apply below_drew1) | exact HB.out)) hb)
    have BKg17 := Aside0.mk hbox
    clear hg hbox hb
    have hz19 : w18.cell? ⟨g17, 0, none⟩ = some (.int .i64 0) := (blk_cell BKg17.out 0).trans rfl
    have hz20 : w18.cell? ⟨g17, 1, none⟩ = some (.bool false) := (blk_cell BKg17.out 1).trans rfl
    have hz21 : w18.cell? ⟨g17, 2, none⟩ = some (.int .i64 0) := (blk_cell BKg17.out 2).trans rfl
    have hz22 : w18.cell? ⟨g17, 3, none⟩ = some (.string (⟨#[]⟩ : ByteArray)) := (blk_cell BKg17.out 3).trans rfl
    have hz23 : w18.cell? ⟨g17, 4, none⟩ = some (.slice none 0 0) := (blk_cell BKg17.out 4).trans rfl
    have hf24 := blk_frozen BKg17.out 0
    have hf25 := blk_frozen BKg17.out 1
    have hf26 := blk_frozen BKg17.out 2
    have hf27 := blk_frozen BKg17.out 3
    have hf28 := blk_frozen BKg17.out 4
    go_wp2_with (((with_reducible refine gate_store (t := 28) (p := 5) rfl ?_); (try (refine gate_guard (by rfl) ?_; dsimp only)); refine MW.ev_store #[.int .i64 t8, .bool t9, .int .i64 t10, .string t11, .slice A16 t12.length cp16] rfl rfl rfl rfl (cs := #[.int .i64 0, .bool false, .int .i64 0, .string (⟨#[]⟩ : ByteArray), .slice none 0 0]) (ty := 28) (by (with_reducible repeat (first | refine blk_drewN ?_ _ | refine blk_drew ?_ | refine blk_alloc ?_ _)); exact BKg17.out) [.int .i64 t8, .bool t9, .int .i64 t10, .string t11, .slice A16 t12.length cp16] rfl (by kernel_rfl) (by simp) (by simp [Value.oneCell']) rfl ?_; intro w29 hbk hg); replace hbk := Aside0.mk hbk; refine stop_ ?_)
    refine Stop.go ?_
    replace hbk := hbk.out
    replace HF16 := Aside0.mk (Kd.F_grown (ok := (fun k_ => (w.heap.size ≤ k_) ∧ k_ ≠ g17)) (by (with_reducible repeat (first | apply Kd.F_alloc | apply Kd.F_drewN | apply Kd.F_drew)); exact HF16.out) hg (fun k_ hk_ he_ => hk_.2 (Option.some.inj he_)))
    replace HB := Aside0.mk (Below.grown (by repeat (first | (with_reducible first | exact HB.out | apply below_alloc | apply pw_below_drewN | apply below_drew1) | exact HB.out)) hg (below_size (by repeat (first | (with_reducible first | exact HB.out | apply below_alloc | apply pw_below_drewN | apply below_drew1) | exact HB.out))) (fun k_ hk_ => by injection hk_ with hk_; rw [← hk_]; exact GEg17.out))
    replace BKg17 := Aside0.mk hbk
    clear hg hbk
    clear hz19 hz20 hz21 hz22 hz23 hf24 hf25 hf26 hf27 hf28
    have hz30 : w29.cell? ⟨g17, 0, none⟩ = some (.int .i64 t8) := (blk_cell BKg17.out 0).trans rfl
    have hz31 : w29.cell? ⟨g17, 1, none⟩ = some (.bool t9) := (blk_cell BKg17.out 1).trans rfl
    have hz32 : w29.cell? ⟨g17, 2, none⟩ = some (.int .i64 t10) := (blk_cell BKg17.out 2).trans rfl
    have hz33 : w29.cell? ⟨g17, 3, none⟩ = some (.string t11) := (blk_cell BKg17.out 3).trans rfl
    have hz34 : w29.cell? ⟨g17, 4, none⟩ = some (.slice A16 t12.length cp16) := (blk_cell BKg17.out 4).trans rfl
    have hf35 := blk_frozen BKg17.out 0
    have hf36 := blk_frozen BKg17.out 1
    have hf37 := blk_frozen BKg17.out 2
    have hf38 := blk_frozen BKg17.out 3
    have hf39 := blk_frozen BKg17.out 4
    by_cases c40 : t11.toList = a0.toList
    · have H := HH.out
      rw [if_pos c40] at H
      replace HH := Aside0.mk H
      clear H
      have hk41 : (t11.toList == a0.toList) = true := beq_iff_eq.mpr c40
      have hk42 : (t11.toList != a0.toList) = false := bne_eq_false_iff_eq.mpr c40
      clear c40
      by_cases c43 : t13 = 0
      · have H := HH.out
        rw [if_pos c43] at H
        replace HH := Aside0.mk H
        clear H
        have hk44 : (t13 == 0) = true := beq_iff_eq.mpr c43
        have hk45 : (t13 != 0) = false := bne_eq_false_iff_eq.mpr c43
        clear c43
        have H := HH.out
        replace H := Option.bind_eq_some_iff.mp H
        obtain ⟨t46, at_, H⟩ := H
        have At47 := Aside0.mk at_
        clear at_
        replace HH := Aside0.mk (show (some t46) = some r from H)
        clear H
        go_wp2_with (((with_reducible refine gate_callee (f := 8) rfl ?_); (try (refine gate_guard (by rfl) ?_; dsimp only)); refine goesL_ (some 38) rfl rfl Try.func8 (by kernel_rfl) rfl #[] rfl (by (try simp only [List.map_toArray, List.map_cons, List.map_nil]); first | done | rfl | (simp only [List.length_drop, List.length_take]; rfl)) ?_; (with_reducible refine (toponymlaw16_awake.calls k  t46 _  At47.out).mono ?_); rintro e w48 ⟨rfl, hb⟩; refine ⟨_, rfl, ?_⟩); refine stop_ ?_)
        refine Stop.go ?_
        replace HF16 := Aside0.mk (Kd.F_below (by (with_reducible repeat (first | apply Kd.F_alloc | apply Kd.F_drewN | apply Kd.F_drew)); exact HF16.out) hb)
        replace BKg17 := Aside0.mk (blk_below (o := .cells #[.int .i64 t8, .bool t9, .int .i64 t10, .string t11, .slice A16 t12.length cp16] 28 (0, 0)) (by (with_reducible repeat (first | refine blk_drewN ?_ _ | refine blk_drew ?_ | refine blk_alloc ?_ _)); exact BKg17.out) hb)
        replace HB := Aside0.mk (below_step (by repeat (first | (with_reducible first | exact HB.out | apply below_alloc | apply pw_below_drewN | apply below_drew1) | exact HB.out)) hb)
        clear hb
        clear hz30 hz31 hz32 hz33 hz34 hf35 hf36 hf37 hf38 hf39
        have hz49 : w48.cell? ⟨g17, 0, none⟩ = some (.int .i64 t8) := (blk_cell BKg17.out 0).trans rfl
        have hz50 : w48.cell? ⟨g17, 1, none⟩ = some (.bool t9) := (blk_cell BKg17.out 1).trans rfl
        have hz51 : w48.cell? ⟨g17, 2, none⟩ = some (.int .i64 t10) := (blk_cell BKg17.out 2).trans rfl
        have hz52 : w48.cell? ⟨g17, 3, none⟩ = some (.string t11) := (blk_cell BKg17.out 3).trans rfl
        have hz53 : w48.cell? ⟨g17, 4, none⟩ = some (.slice A16 t12.length cp16) := (blk_cell BKg17.out 4).trans rfl
        have hf54 := blk_frozen BKg17.out 0
        have hf55 := blk_frozen BKg17.out 1
        have hf56 := blk_frozen BKg17.out 2
        have hf57 := blk_frozen BKg17.out 3
        have hf58 := blk_frozen BKg17.out 4
        have H := HH.out
        obtain rfl := Option.some.inj H
        clear HH
        go_wp2
        go_ret
        exact ⟨by first | rfl | (simp; done) | (simp [*]; done), (by repeat (first | (with_reducible first | exact HB.out | apply below_alloc | apply pw_below_drewN | apply below_drew1) | exact HB.out))⟩
      · have H := HH.out
        rw [if_neg c43] at H
        replace HH := Aside0.mk H
        clear H
        have hk59 : (t13 == 0) = false := beq_eq_false_iff_ne.mpr c43
        have hk60 : (t13 != 0) = true := bne_iff_ne.mpr c43
        clear c43
        have H := HH.out
        obtain rfl := Option.some.inj H
        clear HH
        go_wp2
        go_ret
        exact ⟨by first | rfl | (simp; done) | (simp [*]; done), (by repeat (first | (with_reducible first | exact HB.out | apply below_alloc | apply pw_below_drewN | apply below_drew1) | exact HB.out))⟩
    · have H := HH.out
      rw [if_neg c40] at H
      replace HH := Aside0.mk H
      clear H
      have hk61 : (t11.toList == a0.toList) = false := beq_eq_false_iff_ne.mpr c40
      have hk62 : (t11.toList != a0.toList) = true := bne_iff_ne.mpr c40
      clear c40
      have H := HH.out
      obtain rfl := Option.some.inj H
      clear HH
      go_wp2
      go_ret
      exact ⟨by first | rfl | (simp; done) | (simp [*]; done), (by repeat (first | (with_reducible first | exact HB.out | apply below_alloc | apply pw_below_drewN | apply below_drew1) | exact HB.out))⟩
  · have H := HH.out
    rw [if_neg c5] at H
    replace HH := Aside0.mk H
    clear H
    have hk63 : (t2 == 0) = false := beq_eq_false_iff_ne.mpr c5
    have hk64 : (t2 != 0) = true := bne_iff_ne.mpr c5
    clear c5
    by_cases c65 : t1 = 0
    · have H := HH.out
      rw [if_pos c65] at H
      replace HH := Aside0.mk H
      clear H
      have hk66 : (t1 == 0) = true := beq_iff_eq.mpr c65
      have hk67 : (t1 != 0) = false := bne_eq_false_iff_eq.mpr c65
      clear c65
      by_cases c68 : t2 = 160
      · have H := HH.out
        rw [if_pos c68] at H
        replace HH := Aside0.mk H
        clear H
        have hk69 : (t2 == 160) = true := beq_iff_eq.mpr c68
        have hk70 : (t2 != 160) = false := bne_eq_false_iff_eq.mpr c68
        clear c68
        have H := HH.out
        replace H := Option.bind_eq_some_iff.mp H
        obtain ⟨t71, at_, H⟩ := H
        have At72 := Aside0.mk at_
        clear at_
        replace HH := Aside0.mk (show (some t71) = some r from H)
        clear H
        go_wp2_with (((with_reducible refine gate_callee (f := 8) rfl ?_); (try (refine gate_guard (by rfl) ?_; dsimp only)); refine goesL_ (some 22) rfl rfl Try.func8 (by kernel_rfl) rfl #[] rfl (by (try simp only [List.map_toArray, List.map_cons, List.map_nil]); first | done | rfl | (simp only [List.length_drop, List.length_take]; rfl)) ?_; (with_reducible refine (toponymlaw16_awake.calls k  t71 _  At72.out).mono ?_); rintro e w73 ⟨rfl, hb⟩; refine ⟨_, rfl, ?_⟩); refine stop_ ?_)
        refine Stop.go ?_
        replace HB := Aside0.mk (below_step (by repeat (first | (with_reducible first | exact HB.out | apply below_alloc | apply pw_below_drewN | apply below_drew1) | exact HB.out)) hb)
        clear hb
        have H := HH.out
        obtain rfl := Option.some.inj H
        clear HH
        go_wp2
        go_ret
        exact ⟨by first | rfl | (simp; done) | (simp [*]; done), (by repeat (first | (with_reducible first | exact HB.out | apply below_alloc | apply pw_below_drewN | apply below_drew1) | exact HB.out))⟩
      · have H := HH.out
        rw [if_neg c68] at H
        replace HH := Aside0.mk H
        clear H
        have hk74 : (t2 == 160) = false := beq_eq_false_iff_ne.mpr c68
        have hk75 : (t2 != 160) = true := bne_iff_ne.mpr c68
        clear c68
        have H := HH.out
        obtain rfl := Option.some.inj H
        clear HH
        go_wp2
        go_ret
        exact ⟨by first | rfl | (simp; done) | (simp [*]; done), (by repeat (first | (with_reducible first | exact HB.out | apply below_alloc | apply pw_below_drewN | apply below_drew1) | exact HB.out))⟩
    · have H := HH.out
      rw [if_neg c65] at H
      replace HH := Aside0.mk H
      clear H
      have hk76 : (t1 == 0) = false := beq_eq_false_iff_ne.mpr c65
      have hk77 : (t1 != 0) = true := bne_iff_ne.mpr c65
      clear c65
      have H := HH.out
      obtain rfl := Option.some.inj H
      clear HH
      go_wp2
      go_ret
      exact ⟨by first | rfl | (simp; done) | (simp [*]; done), (by repeat (first | (with_reducible first | exact HB.out | apply below_alloc | apply pw_below_drewN | apply below_drew1) | exact HB.out))⟩

end Go.Proofs.Ytliackbiljhioaa.GA
