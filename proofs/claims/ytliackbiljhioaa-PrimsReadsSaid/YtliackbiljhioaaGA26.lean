-- written by wip/gen.py, a program of this session
import Derived.Test.YtliackbiljhioaaGA0
import Derived.Test.YtliackbiljhioaaGA10
import Derived.Test.YtliackbiljhioaaGA20
import Derived.Test.YtliackbiljhioaaGA21
import Derived.Test.YtliackbiljhioaaGA22
import Derived.Test.YtliackbiljhioaaGA23
import Derived.Test.YtliackbiljhioaaGA24
import Derived.Test.YtliackbiljhioaaGA25
import Derived.Test.YtliackbiljhioaaGA6
import Derived.Test.YtliackbiljhioaaGA9
namespace Go.Proofs.Ytliackbiljhioaa.GA
open Go.RowKit Go.Proofs.Ytliackbiljhioaa Go.Proofs.Ytliackbiljhioaa.MW Go.Proofs.YtliackbiljhioaaW.PrintWords Go.Proofs.YtliackbiljhioaaW.PrintLast Go.Proofs.YtliackbiljhioaaW.PrintMore
attribute [local go_sem] max2_int min2_int max_two min_two
set_option linter.unusedVariables false
set_option linter.unusedSimpArgs false

/-! ### toponymlaw16_PrimsReads: function 6 -/
def toponymlaw16_PrimsReads.f (k : Nat) (a0_0 : Int) (a0_1 : Bool) (a0_2 : Int) (a0_3 : ByteArray) (l0_4 : List (S28)) : Option (Bool) := (toponymlaw15_Few.f k a0_0 a0_1 a0_2 a0_3 l0_4 200).bind fun t13 => (if t13 < 0 then ((toponymlaw16_awake.f k ).bind fun t29 => (some t29)) else ((prims_AsInt.f k a0_0 a0_1 a0_2 a0_3 l0_4).bind fun bt44 => ((toponymref16_AsInt.f k a0_0 a0_1 a0_2 a0_3 l0_4).bind fun bt58 => ((prims_AsBool.f a0_0 a0_1 a0_2 a0_3 l0_4).bind fun bt72 => ((toponymref16_AsBool.f a0_0 a0_1 a0_2 a0_3 l0_4).bind fun bt86 => ((prims_Texts.f k a0_0 a0_1 a0_2 a0_3 l0_4).bind fun bt100 => ((toponymref16_Texts.f k a0_0 a0_1 a0_2 a0_3 l0_4).bind fun bt115 => (if bt44.1 = bt58.1 then (if bt44.2 = bt58.2 then (if (bt72.1 == bt86.1) = true then (if bt72.2 = bt86.2 then ((toponymref16_SameTexts.f k bt100.1 bt115.1).bind fun t143 => (if t143 = true then (if bt100.2 = bt115.2 then ((toponymlaw16_awake.f k ).bind fun t150 => (some t150)) else (some false)) else (some false))) else (some false)) else (some false)) else (some false)) else (some false)))))))))
theorem toponymlaw16_PrimsReads.mono : ∀ a0_ a1_ a2_ a3_ a4_ k, LeO (toponymlaw16_PrimsReads.f k a0_ a1_ a2_ a3_ a4_) (toponymlaw16_PrimsReads.f (k + 1) a0_ a1_ a2_ a3_ a4_) := by
  intro a0_ a1_ a2_ a3_ a4_ k
  unfold toponymlaw16_PrimsReads.f
  repeat' first
      | (with_reducible exact prims_AsInt.mono _ _ _ _ _ _)
      | (with_reducible exact prims_Texts.mono _ _ _ _ _ _)
      | (with_reducible exact toponymlaw15_Few.mono _ _ _ _ _ _ _)
      | (with_reducible exact toponymlaw16_awake.mono _)
      | (with_reducible exact toponymref16_AsInt.mono _ _ _ _ _ _)
      | (with_reducible exact toponymref16_SameTexts.mono _ _ _)
      | (with_reducible exact toponymref16_Texts.mono _ _ _ _ _ _)
      | (with_reducible exact LeO.refl _)
      | (with_reducible exact LeO.none _)
      | (with_reducible refine LeO.ite ?_ ?_)
      | (with_reducible refine LeO.bind ?_ (fun _ => ?_))
      | exact prims_AsInt.mono _ _ _ _ _ _
      | exact prims_Texts.mono _ _ _ _ _ _
      | exact toponymlaw15_Few.mono _ _ _ _ _ _ _
      | exact toponymlaw16_awake.mono _
      | exact toponymref16_AsInt.mono _ _ _ _ _ _
      | exact toponymref16_SameTexts.mono _ _ _
      | exact toponymref16_Texts.mono _ _ _ _ _ _
      | exact LeO.none _
      | refine LeO.ite ?_ ?_
      | refine LeO.bind ?_ (fun _ => ?_)
set_option maxHeartbeats 8000000 in
set_option maxRecDepth 100000 in
theorem toponymlaw16_PrimsReads.calls (k : Nat) (P_ : Nat → Prop) (a0_0 : Int) (a0_1 : Bool) (a0_2 : Int) (a0_3 : ByteArray) (A0_4 : Option Addr) (c0_4 : Nat) (l0_4 : List (S28)) (r : Bool) (w : World) (hs0_4 : Kd.F k28 w P_ A0_4 l0_4.length l0_4) (hc0_4 : l0_4.length ≤ c0_4) (h : toponymlaw16_PrimsReads.f k a0_0 a0_1 a0_2 a0_3 l0_4 = some r) :
    Calls Try.prog 6 #[.agg #[.int .i64 a0_0, .bool a0_1, .int .i64 a0_2, .string a0_3, .slice A0_4 l0_4.length c0_4]] w fun e w' => e = .returned (.bool r) ∧ Below w.heap.size w w' := by
  have HH := Aside0.mk (show ((toponymlaw15_Few.f k a0_0 a0_1 a0_2 a0_3 l0_4 200).bind fun t13 => (if t13 < 0 then ((toponymlaw16_awake.f k ).bind fun t29 => (some t29)) else ((prims_AsInt.f k a0_0 a0_1 a0_2 a0_3 l0_4).bind fun bt44 => ((toponymref16_AsInt.f k a0_0 a0_1 a0_2 a0_3 l0_4).bind fun bt58 => ((prims_AsBool.f a0_0 a0_1 a0_2 a0_3 l0_4).bind fun bt72 => ((toponymref16_AsBool.f a0_0 a0_1 a0_2 a0_3 l0_4).bind fun bt86 => ((prims_Texts.f k a0_0 a0_1 a0_2 a0_3 l0_4).bind fun bt100 => ((toponymref16_Texts.f k a0_0 a0_1 a0_2 a0_3 l0_4).bind fun bt115 => (if bt44.1 = bt58.1 then (if bt44.2 = bt58.2 then (if (bt72.1 == bt86.1) = true then (if bt72.2 = bt86.2 then ((toponymref16_SameTexts.f k bt100.1 bt115.1).bind fun t143 => (if t143 = true then (if bt100.2 = bt115.2 then ((toponymlaw16_awake.f k ).bind fun t150 => (some t150)) else (some false)) else (some false))) else (some false)) else (some false)) else (some false)) else (some false)))))))))) = some r from h)
  clear h
  have HF0_4 := Aside0.mk (Kd.F_mono hs0_4 (fun k_ hk_ => (.inl hk_ : P_ k_ ∨ w.heap.size ≤ k_)))
  have HL0_4 := Aside0.mk hc0_4
  clear hs0_4 hc0_4
  have HB := Aside0.mk (Below.refl w.heap.size w)
  have hu28 := Try.underlying28
  go_enter Try.func6, Try.ntmps6
  go_wp2_with (((with_reducible refine gate_dst (N := 1) rfl ?_); (try (refine gate_guard (by rfl) ?_; dsimp only)); refine box_event ?hg (N := 1) ?hd (cs := #[.int .i64 a0_0, .bool a0_1, .int .i64 a0_2, .string a0_3, .slice A0_4 l0_4.length c0_4]) (t := 28) ?hr ?_; (case hd => rfl); (case hg => rfl); (case hr => first | (go_simp; done) | (go_simp; rfl)); intro g1 hg w2 hbox hb); replace hg := Aside0.mk hg; replace hbox := Aside0.mk hbox; refine stop_ ?_)
  refine Stop.go ?_
  replace hg := hg.out
  replace hbox := hbox.out
  have GEg1 := Aside0.mk (by rw [hg]; exact (below_size (by repeat (first | (with_reducible first | exact HB.out | apply below_alloc | apply pw_below_drewN | apply below_drew1) | exact HB.out))) : w.heap.size ≤ g1)
  replace HF0_4 := Aside0.mk (Kd.F_elderB (by (with_reducible repeat (first | apply Kd.F_alloc | apply Kd.F_drewN | apply Kd.F_drew)); exact HF0_4.out) g1 (Nat.le_of_eq hg.symm))
  replace HF0_4 := Aside0.mk (Kd.F_mono HF0_4.out (fun k_ hk_ => ⟨hk_.1, hk_.2⟩) : Kd.F k28 _ (fun k_ => (P_ k_ ∨ w.heap.size ≤ k_) ∧ k_ ≠ g1) _ _ _)
  replace HF0_4 := Aside0.mk (Kd.F_below (by (with_reducible repeat (first | apply Kd.F_alloc | apply Kd.F_drewN | apply Kd.F_drew)); exact HF0_4.out) hb)
  replace HB := Aside0.mk (below_step (by repeat (first | (with_reducible first | exact HB.out | apply below_alloc | apply pw_below_drewN | apply below_drew1) | exact HB.out)) hb)
  have BKg1 := Aside0.mk hbox
  clear hg hbox hb
  have hz3 : w2.cell? ⟨g1, 0, none⟩ = some (.int .i64 a0_0) := (blk_cell BKg1.out 0).trans rfl
  have hz4 : w2.cell? ⟨g1, 1, none⟩ = some (.bool a0_1) := (blk_cell BKg1.out 1).trans rfl
  have hz5 : w2.cell? ⟨g1, 2, none⟩ = some (.int .i64 a0_2) := (blk_cell BKg1.out 2).trans rfl
  have hz6 : w2.cell? ⟨g1, 3, none⟩ = some (.string a0_3) := (blk_cell BKg1.out 3).trans rfl
  have hz7 : w2.cell? ⟨g1, 4, none⟩ = some (.slice A0_4 l0_4.length c0_4) := (blk_cell BKg1.out 4).trans rfl
  have hf8 := blk_frozen BKg1.out 0
  have hf9 := blk_frozen BKg1.out 1
  have hf10 := blk_frozen BKg1.out 2
  have hf11 := blk_frozen BKg1.out 3
  have hf12 := blk_frozen BKg1.out 4
  have H := HH.out
  replace H := Option.bind_eq_some_iff.mp H
  obtain ⟨t13, at_, H⟩ := H
  have At14 := Aside0.mk at_
  clear at_
  replace HH := Aside0.mk (show (if t13 < 0 then ((toponymlaw16_awake.f k ).bind fun t29 => (some t29)) else ((prims_AsInt.f k a0_0 a0_1 a0_2 a0_3 l0_4).bind fun bt44 => ((toponymref16_AsInt.f k a0_0 a0_1 a0_2 a0_3 l0_4).bind fun bt58 => ((prims_AsBool.f a0_0 a0_1 a0_2 a0_3 l0_4).bind fun bt72 => ((toponymref16_AsBool.f a0_0 a0_1 a0_2 a0_3 l0_4).bind fun bt86 => ((prims_Texts.f k a0_0 a0_1 a0_2 a0_3 l0_4).bind fun bt100 => ((toponymref16_Texts.f k a0_0 a0_1 a0_2 a0_3 l0_4).bind fun bt115 => (if bt44.1 = bt58.1 then (if bt44.2 = bt58.2 then (if (bt72.1 == bt86.1) = true then (if bt72.2 = bt86.2 then ((toponymref16_SameTexts.f k bt100.1 bt115.1).bind fun t143 => (if t143 = true then (if bt100.2 = bt115.2 then ((toponymlaw16_awake.f k ).bind fun t150 => (some t150)) else (some false)) else (some false))) else (some false)) else (some false)) else (some false)) else (some false))))))))) = some r from H)
  clear H
  go_wp2_with (((with_reducible refine gate_callee (f := 9) rfl ?_); (try (refine gate_guard (by rfl) ?_; dsimp only)); refine goesL_ (some 16) rfl rfl Try.func9 (by kernel_rfl) rfl #[.agg #[.int .i64 a0_0, .bool a0_1, .int .i64 a0_2, .string a0_3, .slice A0_4 l0_4.length c0_4], .int .i64 200] rfl (by (try simp only [List.map_toArray, List.map_cons, List.map_nil]); first | done | rfl | (simp only [List.length_drop, List.length_take]; rfl)) ?_; (with_reducible refine (toponymlaw15_Few.calls k (fun k_ => (P_ k_ ∨ w.heap.size ≤ k_) ∧ k_ ≠ g1) a0_0 a0_1 a0_2 a0_3 _ _ l0_4 200 t13 _ (Kd.F_mono (ok := (fun k_ => (P_ k_ ∨ w.heap.size ≤ k_) ∧ k_ ≠ g1)) (by (with_reducible repeat (first | apply Kd.F_alloc | apply Kd.F_drewN | apply Kd.F_drew)); exact HF0_4.out) (fun k_ hk_ => ⟨hk_.1, hk_.2⟩)) HL0_4.out At14.out).mono ?_); rintro e w15 ⟨rfl, hb⟩; refine ⟨_, rfl, ?_⟩); refine stop_ ?_)
  refine Stop.go ?_
  replace HF0_4 := Aside0.mk (Kd.F_below (by (with_reducible repeat (first | apply Kd.F_alloc | apply Kd.F_drewN | apply Kd.F_drew)); exact HF0_4.out) hb)
  replace BKg1 := Aside0.mk (blk_below (o := .cells #[.int .i64 a0_0, .bool a0_1, .int .i64 a0_2, .string a0_3, .slice A0_4 l0_4.length c0_4] 28 (0, 0)) (by (with_reducible repeat (first | refine blk_drewN ?_ _ | refine blk_drew ?_ | refine blk_alloc ?_ _)); exact BKg1.out) hb)
  replace HB := Aside0.mk (below_step (by repeat (first | (with_reducible first | exact HB.out | apply below_alloc | apply pw_below_drewN | apply below_drew1) | exact HB.out)) hb)
  clear hb
  clear hz3 hz4 hz5 hz6 hz7 hf8 hf9 hf10 hf11 hf12
  have hz16 : w15.cell? ⟨g1, 0, none⟩ = some (.int .i64 a0_0) := (blk_cell BKg1.out 0).trans rfl
  have hz17 : w15.cell? ⟨g1, 1, none⟩ = some (.bool a0_1) := (blk_cell BKg1.out 1).trans rfl
  have hz18 : w15.cell? ⟨g1, 2, none⟩ = some (.int .i64 a0_2) := (blk_cell BKg1.out 2).trans rfl
  have hz19 : w15.cell? ⟨g1, 3, none⟩ = some (.string a0_3) := (blk_cell BKg1.out 3).trans rfl
  have hz20 : w15.cell? ⟨g1, 4, none⟩ = some (.slice A0_4 l0_4.length c0_4) := (blk_cell BKg1.out 4).trans rfl
  have hf21 := blk_frozen BKg1.out 0
  have hf22 := blk_frozen BKg1.out 1
  have hf23 := blk_frozen BKg1.out 2
  have hf24 := blk_frozen BKg1.out 3
  have hf25 := blk_frozen BKg1.out 4
  by_cases c26 : t13 < 0
  · have H := HH.out
    rw [if_pos c26] at H
    replace HH := Aside0.mk H
    clear H
    have hk27 : (t13 < 0) = True := eq_true c26
    have hk28 : decide (t13 < 0) = true := decide_eq_true c26
    clear c26
    have H := HH.out
    replace H := Option.bind_eq_some_iff.mp H
    obtain ⟨t29, at_, H⟩ := H
    have At30 := Aside0.mk at_
    clear at_
    replace HH := Aside0.mk (show (some t29) = some r from H)
    clear H
    go_wp2_with (((with_reducible refine gate_callee (f := 8) rfl ?_); (try (refine gate_guard (by rfl) ?_; dsimp only)); refine goesL_ (some 18) rfl rfl Try.func8 (by kernel_rfl) rfl #[] rfl (by (try simp only [List.map_toArray, List.map_cons, List.map_nil]); first | done | rfl | (simp only [List.length_drop, List.length_take]; rfl)) ?_; (with_reducible refine (toponymlaw16_awake.calls k  t29 _  At30.out).mono ?_); rintro e w31 ⟨rfl, hb⟩; refine ⟨_, rfl, ?_⟩); refine stop_ ?_)
    refine Stop.go ?_
    replace HF0_4 := Aside0.mk (Kd.F_below (by (with_reducible repeat (first | apply Kd.F_alloc | apply Kd.F_drewN | apply Kd.F_drew)); exact HF0_4.out) hb)
    replace BKg1 := Aside0.mk (blk_below (o := .cells #[.int .i64 a0_0, .bool a0_1, .int .i64 a0_2, .string a0_3, .slice A0_4 l0_4.length c0_4] 28 (0, 0)) (by (with_reducible repeat (first | refine blk_drewN ?_ _ | refine blk_drew ?_ | refine blk_alloc ?_ _)); exact BKg1.out) hb)
    replace HB := Aside0.mk (below_step (by repeat (first | (with_reducible first | exact HB.out | apply below_alloc | apply pw_below_drewN | apply below_drew1) | exact HB.out)) hb)
    clear hb
    clear hz16 hz17 hz18 hz19 hz20 hf21 hf22 hf23 hf24 hf25
    have hz32 : w31.cell? ⟨g1, 0, none⟩ = some (.int .i64 a0_0) := (blk_cell BKg1.out 0).trans rfl
    have hz33 : w31.cell? ⟨g1, 1, none⟩ = some (.bool a0_1) := (blk_cell BKg1.out 1).trans rfl
    have hz34 : w31.cell? ⟨g1, 2, none⟩ = some (.int .i64 a0_2) := (blk_cell BKg1.out 2).trans rfl
    have hz35 : w31.cell? ⟨g1, 3, none⟩ = some (.string a0_3) := (blk_cell BKg1.out 3).trans rfl
    have hz36 : w31.cell? ⟨g1, 4, none⟩ = some (.slice A0_4 l0_4.length c0_4) := (blk_cell BKg1.out 4).trans rfl
    have hf37 := blk_frozen BKg1.out 0
    have hf38 := blk_frozen BKg1.out 1
    have hf39 := blk_frozen BKg1.out 2
    have hf40 := blk_frozen BKg1.out 3
    have hf41 := blk_frozen BKg1.out 4
    have H := HH.out
    obtain rfl := Option.some.inj H
    clear HH
    go_wp2
    go_ret
    exact ⟨by first | rfl | (simp; done) | (simp [*]; done), (by repeat (first | (with_reducible first | exact HB.out | apply below_alloc | apply pw_below_drewN | apply below_drew1) | exact HB.out))⟩
  · have H := HH.out
    rw [if_neg c26] at H
    replace HH := Aside0.mk H
    clear H
    have hk42 : (t13 < 0) = False := eq_false c26
    have hk43 : decide (t13 < 0) = false := decide_eq_false c26
    clear c26
    have H := HH.out
    replace H := Option.bind_eq_some_iff.mp H
    obtain ⟨⟨t44, t45⟩, at_, H⟩ := H
    have At46 := Aside0.mk at_
    clear at_
    replace HH := Aside0.mk (show ((toponymref16_AsInt.f k a0_0 a0_1 a0_2 a0_3 l0_4).bind fun bt58 => ((prims_AsBool.f a0_0 a0_1 a0_2 a0_3 l0_4).bind fun bt72 => ((toponymref16_AsBool.f a0_0 a0_1 a0_2 a0_3 l0_4).bind fun bt86 => ((prims_Texts.f k a0_0 a0_1 a0_2 a0_3 l0_4).bind fun bt100 => ((toponymref16_Texts.f k a0_0 a0_1 a0_2 a0_3 l0_4).bind fun bt115 => (if t44 = bt58.1 then (if t45 = bt58.2 then (if (bt72.1 == bt86.1) = true then (if bt72.2 = bt86.2 then ((toponymref16_SameTexts.f k bt100.1 bt115.1).bind fun t143 => (if t143 = true then (if bt100.2 = bt115.2 then ((toponymlaw16_awake.f k ).bind fun t150 => (some t150)) else (some false)) else (some false))) else (some false)) else (some false)) else (some false)) else (some false))))))) = some r from H)
    clear H
    go_wp2_with (((with_reducible refine gate_callee (f := 14) rfl ?_); (try (refine gate_guard (by rfl) ?_; dsimp only)); refine goesL_ (some 21) rfl rfl Try.func14 (by kernel_rfl) rfl #[.agg #[.int .i64 a0_0, .bool a0_1, .int .i64 a0_2, .string a0_3, .slice A0_4 l0_4.length c0_4]] rfl (by (try simp only [List.map_toArray, List.map_cons, List.map_nil]); first | done | rfl | (simp only [List.length_drop, List.length_take]; rfl)) ?_; (with_reducible refine (prims_AsInt.calls k (fun k_ => (P_ k_ ∨ w.heap.size ≤ k_) ∧ k_ ≠ g1) a0_0 a0_1 a0_2 a0_3 _ _ l0_4 t44 t45 _ (Kd.F_mono (ok := (fun k_ => (P_ k_ ∨ w.heap.size ≤ k_) ∧ k_ ≠ g1)) (by (with_reducible repeat (first | apply Kd.F_alloc | apply Kd.F_drewN | apply Kd.F_drew)); exact HF0_4.out) (fun k_ hk_ => ⟨hk_.1, hk_.2⟩)) HL0_4.out At46.out).mono ?_); rintro e w47 ⟨rfl, hb⟩; refine ⟨_, rfl, ?_⟩); refine stop_ ?_)
    refine Stop.go ?_
    replace HF0_4 := Aside0.mk (Kd.F_below (by (with_reducible repeat (first | apply Kd.F_alloc | apply Kd.F_drewN | apply Kd.F_drew)); exact HF0_4.out) hb)
    replace BKg1 := Aside0.mk (blk_below (o := .cells #[.int .i64 a0_0, .bool a0_1, .int .i64 a0_2, .string a0_3, .slice A0_4 l0_4.length c0_4] 28 (0, 0)) (by (with_reducible repeat (first | refine blk_drewN ?_ _ | refine blk_drew ?_ | refine blk_alloc ?_ _)); exact BKg1.out) hb)
    replace HB := Aside0.mk (below_step (by repeat (first | (with_reducible first | exact HB.out | apply below_alloc | apply pw_below_drewN | apply below_drew1) | exact HB.out)) hb)
    clear hb
    clear hz16 hz17 hz18 hz19 hz20 hf21 hf22 hf23 hf24 hf25
    have hz48 : w47.cell? ⟨g1, 0, none⟩ = some (.int .i64 a0_0) := (blk_cell BKg1.out 0).trans rfl
    have hz49 : w47.cell? ⟨g1, 1, none⟩ = some (.bool a0_1) := (blk_cell BKg1.out 1).trans rfl
    have hz50 : w47.cell? ⟨g1, 2, none⟩ = some (.int .i64 a0_2) := (blk_cell BKg1.out 2).trans rfl
    have hz51 : w47.cell? ⟨g1, 3, none⟩ = some (.string a0_3) := (blk_cell BKg1.out 3).trans rfl
    have hz52 : w47.cell? ⟨g1, 4, none⟩ = some (.slice A0_4 l0_4.length c0_4) := (blk_cell BKg1.out 4).trans rfl
    have hf53 := blk_frozen BKg1.out 0
    have hf54 := blk_frozen BKg1.out 1
    have hf55 := blk_frozen BKg1.out 2
    have hf56 := blk_frozen BKg1.out 3
    have hf57 := blk_frozen BKg1.out 4
    have H := HH.out
    replace H := Option.bind_eq_some_iff.mp H
    obtain ⟨⟨t58, t59⟩, at_, H⟩ := H
    have At60 := Aside0.mk at_
    clear at_
    replace HH := Aside0.mk (show ((prims_AsBool.f a0_0 a0_1 a0_2 a0_3 l0_4).bind fun bt72 => ((toponymref16_AsBool.f a0_0 a0_1 a0_2 a0_3 l0_4).bind fun bt86 => ((prims_Texts.f k a0_0 a0_1 a0_2 a0_3 l0_4).bind fun bt100 => ((toponymref16_Texts.f k a0_0 a0_1 a0_2 a0_3 l0_4).bind fun bt115 => (if t44 = t58 then (if t45 = t59 then (if (bt72.1 == bt86.1) = true then (if bt72.2 = bt86.2 then ((toponymref16_SameTexts.f k bt100.1 bt115.1).bind fun t143 => (if t143 = true then (if bt100.2 = bt115.2 then ((toponymlaw16_awake.f k ).bind fun t150 => (some t150)) else (some false)) else (some false))) else (some false)) else (some false)) else (some false)) else (some false)))))) = some r from H)
    clear H
    go_wp2_with (((with_reducible refine gate_callee (f := 21) rfl ?_); (try (refine gate_guard (by rfl) ?_; dsimp only)); refine goesL_ (some 26) rfl rfl Try.func21 (by kernel_rfl) rfl #[.agg #[.int .i64 a0_0, .bool a0_1, .int .i64 a0_2, .string a0_3, .slice A0_4 l0_4.length c0_4]] rfl (by (try simp only [List.map_toArray, List.map_cons, List.map_nil]); first | done | rfl | (simp only [List.length_drop, List.length_take]; rfl)) ?_; (with_reducible refine (toponymref16_AsInt.calls k (fun k_ => (P_ k_ ∨ w.heap.size ≤ k_) ∧ k_ ≠ g1) a0_0 a0_1 a0_2 a0_3 _ _ l0_4 t58 t59 _ (Kd.F_mono (ok := (fun k_ => (P_ k_ ∨ w.heap.size ≤ k_) ∧ k_ ≠ g1)) (by (with_reducible repeat (first | apply Kd.F_alloc | apply Kd.F_drewN | apply Kd.F_drew)); exact HF0_4.out) (fun k_ hk_ => ⟨hk_.1, hk_.2⟩)) HL0_4.out At60.out).mono ?_); rintro e w61 ⟨rfl, hb⟩; refine ⟨_, rfl, ?_⟩); refine stop_ ?_)
    refine Stop.go ?_
    replace HF0_4 := Aside0.mk (Kd.F_below (by (with_reducible repeat (first | apply Kd.F_alloc | apply Kd.F_drewN | apply Kd.F_drew)); exact HF0_4.out) hb)
    replace BKg1 := Aside0.mk (blk_below (o := .cells #[.int .i64 a0_0, .bool a0_1, .int .i64 a0_2, .string a0_3, .slice A0_4 l0_4.length c0_4] 28 (0, 0)) (by (with_reducible repeat (first | refine blk_drewN ?_ _ | refine blk_drew ?_ | refine blk_alloc ?_ _)); exact BKg1.out) hb)
    replace HB := Aside0.mk (below_step (by repeat (first | (with_reducible first | exact HB.out | apply below_alloc | apply pw_below_drewN | apply below_drew1) | exact HB.out)) hb)
    clear hb
    clear hz48 hz49 hz50 hz51 hz52 hf53 hf54 hf55 hf56 hf57
    have hz62 : w61.cell? ⟨g1, 0, none⟩ = some (.int .i64 a0_0) := (blk_cell BKg1.out 0).trans rfl
    have hz63 : w61.cell? ⟨g1, 1, none⟩ = some (.bool a0_1) := (blk_cell BKg1.out 1).trans rfl
    have hz64 : w61.cell? ⟨g1, 2, none⟩ = some (.int .i64 a0_2) := (blk_cell BKg1.out 2).trans rfl
    have hz65 : w61.cell? ⟨g1, 3, none⟩ = some (.string a0_3) := (blk_cell BKg1.out 3).trans rfl
    have hz66 : w61.cell? ⟨g1, 4, none⟩ = some (.slice A0_4 l0_4.length c0_4) := (blk_cell BKg1.out 4).trans rfl
    have hf67 := blk_frozen BKg1.out 0
    have hf68 := blk_frozen BKg1.out 1
    have hf69 := blk_frozen BKg1.out 2
    have hf70 := blk_frozen BKg1.out 3
    have hf71 := blk_frozen BKg1.out 4
    have H := HH.out
    replace H := Option.bind_eq_some_iff.mp H
    obtain ⟨⟨t72, t73⟩, at_, H⟩ := H
    have At74 := Aside0.mk at_
    clear at_
    replace HH := Aside0.mk (show ((toponymref16_AsBool.f a0_0 a0_1 a0_2 a0_3 l0_4).bind fun bt86 => ((prims_Texts.f k a0_0 a0_1 a0_2 a0_3 l0_4).bind fun bt100 => ((toponymref16_Texts.f k a0_0 a0_1 a0_2 a0_3 l0_4).bind fun bt115 => (if t44 = t58 then (if t45 = t59 then (if (t72 == bt86.1) = true then (if t73 = bt86.2 then ((toponymref16_SameTexts.f k bt100.1 bt115.1).bind fun t143 => (if t143 = true then (if bt100.2 = bt115.2 then ((toponymlaw16_awake.f k ).bind fun t150 => (some t150)) else (some false)) else (some false))) else (some false)) else (some false)) else (some false)) else (some false))))) = some r from H)
    clear H
    go_wp2_with (((with_reducible refine gate_callee (f := 22) rfl ?_); (try (refine gate_guard (by rfl) ?_; dsimp only)); refine goesL_ (some 31) rfl rfl Try.func22 (by kernel_rfl) rfl #[.agg #[.int .i64 a0_0, .bool a0_1, .int .i64 a0_2, .string a0_3, .slice A0_4 l0_4.length c0_4]] rfl (by (try simp only [List.map_toArray, List.map_cons, List.map_nil]); first | done | rfl | (simp only [List.length_drop, List.length_take]; rfl)) ?_; (with_reducible refine (prims_AsBool.calls (fun k_ => (P_ k_ ∨ w.heap.size ≤ k_) ∧ k_ ≠ g1) a0_0 a0_1 a0_2 a0_3 _ _ l0_4 t72 t73 _ (Kd.F_mono (ok := (fun k_ => (P_ k_ ∨ w.heap.size ≤ k_) ∧ k_ ≠ g1)) (by (with_reducible repeat (first | apply Kd.F_alloc | apply Kd.F_drewN | apply Kd.F_drew)); exact HF0_4.out) (fun k_ hk_ => ⟨hk_.1, hk_.2⟩)) HL0_4.out At74.out).mono ?_); rintro e w75 ⟨rfl, hb⟩; refine ⟨_, rfl, ?_⟩); refine stop_ ?_)
    refine Stop.go ?_
    replace HF0_4 := Aside0.mk (Kd.F_below (by (with_reducible repeat (first | apply Kd.F_alloc | apply Kd.F_drewN | apply Kd.F_drew)); exact HF0_4.out) hb)
    replace BKg1 := Aside0.mk (blk_below (o := .cells #[.int .i64 a0_0, .bool a0_1, .int .i64 a0_2, .string a0_3, .slice A0_4 l0_4.length c0_4] 28 (0, 0)) (by (with_reducible repeat (first | refine blk_drewN ?_ _ | refine blk_drew ?_ | refine blk_alloc ?_ _)); exact BKg1.out) hb)
    replace HB := Aside0.mk (below_step (by repeat (first | (with_reducible first | exact HB.out | apply below_alloc | apply pw_below_drewN | apply below_drew1) | exact HB.out)) hb)
    clear hb
    clear hz62 hz63 hz64 hz65 hz66 hf67 hf68 hf69 hf70 hf71
    have hz76 : w75.cell? ⟨g1, 0, none⟩ = some (.int .i64 a0_0) := (blk_cell BKg1.out 0).trans rfl
    have hz77 : w75.cell? ⟨g1, 1, none⟩ = some (.bool a0_1) := (blk_cell BKg1.out 1).trans rfl
    have hz78 : w75.cell? ⟨g1, 2, none⟩ = some (.int .i64 a0_2) := (blk_cell BKg1.out 2).trans rfl
    have hz79 : w75.cell? ⟨g1, 3, none⟩ = some (.string a0_3) := (blk_cell BKg1.out 3).trans rfl
    have hz80 : w75.cell? ⟨g1, 4, none⟩ = some (.slice A0_4 l0_4.length c0_4) := (blk_cell BKg1.out 4).trans rfl
    have hf81 := blk_frozen BKg1.out 0
    have hf82 := blk_frozen BKg1.out 1
    have hf83 := blk_frozen BKg1.out 2
    have hf84 := blk_frozen BKg1.out 3
    have hf85 := blk_frozen BKg1.out 4
    have H := HH.out
    replace H := Option.bind_eq_some_iff.mp H
    obtain ⟨⟨t86, t87⟩, at_, H⟩ := H
    have At88 := Aside0.mk at_
    clear at_
    replace HH := Aside0.mk (show ((prims_Texts.f k a0_0 a0_1 a0_2 a0_3 l0_4).bind fun bt100 => ((toponymref16_Texts.f k a0_0 a0_1 a0_2 a0_3 l0_4).bind fun bt115 => (if t44 = t58 then (if t45 = t59 then (if (t72 == t86) = true then (if t73 = t87 then ((toponymref16_SameTexts.f k bt100.1 bt115.1).bind fun t143 => (if t143 = true then (if bt100.2 = bt115.2 then ((toponymlaw16_awake.f k ).bind fun t150 => (some t150)) else (some false)) else (some false))) else (some false)) else (some false)) else (some false)) else (some false)))) = some r from H)
    clear H
    go_wp2_with (((with_reducible refine gate_callee (f := 23) rfl ?_); (try (refine gate_guard (by rfl) ?_; dsimp only)); refine goesL_ (some 36) rfl rfl Try.func23 (by kernel_rfl) rfl #[.agg #[.int .i64 a0_0, .bool a0_1, .int .i64 a0_2, .string a0_3, .slice A0_4 l0_4.length c0_4]] rfl (by (try simp only [List.map_toArray, List.map_cons, List.map_nil]); first | done | rfl | (simp only [List.length_drop, List.length_take]; rfl)) ?_; (with_reducible refine (toponymref16_AsBool.calls (fun k_ => (P_ k_ ∨ w.heap.size ≤ k_) ∧ k_ ≠ g1) a0_0 a0_1 a0_2 a0_3 _ _ l0_4 t86 t87 _ (Kd.F_mono (ok := (fun k_ => (P_ k_ ∨ w.heap.size ≤ k_) ∧ k_ ≠ g1)) (by (with_reducible repeat (first | apply Kd.F_alloc | apply Kd.F_drewN | apply Kd.F_drew)); exact HF0_4.out) (fun k_ hk_ => ⟨hk_.1, hk_.2⟩)) HL0_4.out At88.out).mono ?_); rintro e w89 ⟨rfl, hb⟩; refine ⟨_, rfl, ?_⟩); refine stop_ ?_)
    refine Stop.go ?_
    replace HF0_4 := Aside0.mk (Kd.F_below (by (with_reducible repeat (first | apply Kd.F_alloc | apply Kd.F_drewN | apply Kd.F_drew)); exact HF0_4.out) hb)
    replace BKg1 := Aside0.mk (blk_below (o := .cells #[.int .i64 a0_0, .bool a0_1, .int .i64 a0_2, .string a0_3, .slice A0_4 l0_4.length c0_4] 28 (0, 0)) (by (with_reducible repeat (first | refine blk_drewN ?_ _ | refine blk_drew ?_ | refine blk_alloc ?_ _)); exact BKg1.out) hb)
    replace HB := Aside0.mk (below_step (by repeat (first | (with_reducible first | exact HB.out | apply below_alloc | apply pw_below_drewN | apply below_drew1) | exact HB.out)) hb)
    clear hb
    clear hz76 hz77 hz78 hz79 hz80 hf81 hf82 hf83 hf84 hf85
    have hz90 : w89.cell? ⟨g1, 0, none⟩ = some (.int .i64 a0_0) := (blk_cell BKg1.out 0).trans rfl
    have hz91 : w89.cell? ⟨g1, 1, none⟩ = some (.bool a0_1) := (blk_cell BKg1.out 1).trans rfl
    have hz92 : w89.cell? ⟨g1, 2, none⟩ = some (.int .i64 a0_2) := (blk_cell BKg1.out 2).trans rfl
    have hz93 : w89.cell? ⟨g1, 3, none⟩ = some (.string a0_3) := (blk_cell BKg1.out 3).trans rfl
    have hz94 : w89.cell? ⟨g1, 4, none⟩ = some (.slice A0_4 l0_4.length c0_4) := (blk_cell BKg1.out 4).trans rfl
    have hf95 := blk_frozen BKg1.out 0
    have hf96 := blk_frozen BKg1.out 1
    have hf97 := blk_frozen BKg1.out 2
    have hf98 := blk_frozen BKg1.out 3
    have hf99 := blk_frozen BKg1.out 4
    have H := HH.out
    replace H := Option.bind_eq_some_iff.mp H
    obtain ⟨⟨t100, t101⟩, at_, H⟩ := H
    have At102 := Aside0.mk at_
    clear at_
    replace HH := Aside0.mk (show ((toponymref16_Texts.f k a0_0 a0_1 a0_2 a0_3 l0_4).bind fun bt115 => (if t44 = t58 then (if t45 = t59 then (if (t72 == t86) = true then (if t73 = t87 then ((toponymref16_SameTexts.f k t100 bt115.1).bind fun t143 => (if t143 = true then (if t101 = bt115.2 then ((toponymlaw16_awake.f k ).bind fun t150 => (some t150)) else (some false)) else (some false))) else (some false)) else (some false)) else (some false)) else (some false))) = some r from H)
    clear H
    go_wp2_with (((with_reducible refine gate_callee (f := 24) rfl ?_); (try (refine gate_guard (by rfl) ?_; dsimp only)); refine goesL_ (some 41) rfl rfl Try.func24 (by kernel_rfl) rfl #[.agg #[.int .i64 a0_0, .bool a0_1, .int .i64 a0_2, .string a0_3, .slice A0_4 l0_4.length c0_4]] rfl (by (try simp only [List.map_toArray, List.map_cons, List.map_nil]); first | done | rfl | (simp only [List.length_drop, List.length_take]; rfl)) ?_; (with_reducible refine (prims_Texts.calls k (fun k_ => (P_ k_ ∨ w.heap.size ≤ k_) ∧ k_ ≠ g1) a0_0 a0_1 a0_2 a0_3 _ _ l0_4 t100 t101 _ (Kd.F_mono (ok := (fun k_ => (P_ k_ ∨ w.heap.size ≤ k_) ∧ k_ ≠ g1)) (by (with_reducible repeat (first | apply Kd.F_alloc | apply Kd.F_drewN | apply Kd.F_drew)); exact HF0_4.out) (fun k_ hk_ => ⟨hk_.1, hk_.2⟩)) HL0_4.out At102.out).mono ?_); rintro e w103 ⟨v104, rfl, hn104, hb⟩; refine ⟨_, rfl, ?_⟩); refine stop_ ?_)
    refine Stop.go ?_
    obtain ⟨A104, cp104, he_⟩ := Kd.N_slice hn104
    subst he_
    have HL104 := Aside0.mk (Kd.N_reads' hn104).2.1
    have HF104 := Aside0.mk (Kd.F_mono (Kd.N_F hn104) (fun k_ hk_ => hk_.elim (fun h_ => h_) (fun h_ => ⟨.inr (Nat.le_trans (below_size (by repeat (first | (with_reducible first | exact HB.out | apply below_alloc | apply pw_below_drewN | apply below_drew1) | exact HB.out))) h_), Kd.freshB (o := .cells #[.int .i64 a0_0, .bool a0_1, .int .i64 a0_2, .string a0_3, .slice A0_4 l0_4.length c0_4] 28 (0, 0)) (by (with_reducible repeat (first | refine blk_drewN ?_ _ | refine blk_drew ?_ | refine blk_alloc ?_ _)); exact BKg1.out) k_ h_⟩)) : Kd.F Kd.string _ (fun k_ => (P_ k_ ∨ w.heap.size ≤ k_) ∧ k_ ≠ g1) _ _ _)
    clear hn104
    replace HF0_4 := Aside0.mk (Kd.F_below (by (with_reducible repeat (first | apply Kd.F_alloc | apply Kd.F_drewN | apply Kd.F_drew)); exact HF0_4.out) hb)
    replace BKg1 := Aside0.mk (blk_below (o := .cells #[.int .i64 a0_0, .bool a0_1, .int .i64 a0_2, .string a0_3, .slice A0_4 l0_4.length c0_4] 28 (0, 0)) (by (with_reducible repeat (first | refine blk_drewN ?_ _ | refine blk_drew ?_ | refine blk_alloc ?_ _)); exact BKg1.out) hb)
    replace HB := Aside0.mk (below_step (by repeat (first | (with_reducible first | exact HB.out | apply below_alloc | apply pw_below_drewN | apply below_drew1) | exact HB.out)) hb)
    clear hb
    clear hz90 hz91 hz92 hz93 hz94 hf95 hf96 hf97 hf98 hf99
    have hz105 : w103.cell? ⟨g1, 0, none⟩ = some (.int .i64 a0_0) := (blk_cell BKg1.out 0).trans rfl
    have hz106 : w103.cell? ⟨g1, 1, none⟩ = some (.bool a0_1) := (blk_cell BKg1.out 1).trans rfl
    have hz107 : w103.cell? ⟨g1, 2, none⟩ = some (.int .i64 a0_2) := (blk_cell BKg1.out 2).trans rfl
    have hz108 : w103.cell? ⟨g1, 3, none⟩ = some (.string a0_3) := (blk_cell BKg1.out 3).trans rfl
    have hz109 : w103.cell? ⟨g1, 4, none⟩ = some (.slice A0_4 l0_4.length c0_4) := (blk_cell BKg1.out 4).trans rfl
    have hf110 := blk_frozen BKg1.out 0
    have hf111 := blk_frozen BKg1.out 1
    have hf112 := blk_frozen BKg1.out 2
    have hf113 := blk_frozen BKg1.out 3
    have hf114 := blk_frozen BKg1.out 4
    have H := HH.out
    replace H := Option.bind_eq_some_iff.mp H
    obtain ⟨⟨t115, t116⟩, at_, H⟩ := H
    have At117 := Aside0.mk at_
    clear at_
    replace HH := Aside0.mk (show (if t44 = t58 then (if t45 = t59 then (if (t72 == t86) = true then (if t73 = t87 then ((toponymref16_SameTexts.f k t100 t115).bind fun t143 => (if t143 = true then (if t101 = t116 then ((toponymlaw16_awake.f k ).bind fun t150 => (some t150)) else (some false)) else (some false))) else (some false)) else (some false)) else (some false)) else (some false)) = some r from H)
    clear H
    go_wp2_with (((with_reducible refine gate_callee (f := 25) rfl ?_); (try (refine gate_guard (by rfl) ?_; dsimp only)); refine goesL_ (some 46) rfl rfl Try.func25 (by kernel_rfl) rfl #[.agg #[.int .i64 a0_0, .bool a0_1, .int .i64 a0_2, .string a0_3, .slice A0_4 l0_4.length c0_4]] rfl (by (try simp only [List.map_toArray, List.map_cons, List.map_nil]); first | done | rfl | (simp only [List.length_drop, List.length_take]; rfl)) ?_; (with_reducible refine (toponymref16_Texts.calls k (fun k_ => (P_ k_ ∨ w.heap.size ≤ k_) ∧ k_ ≠ g1) a0_0 a0_1 a0_2 a0_3 _ _ l0_4 t115 t116 _ (Kd.F_mono (ok := (fun k_ => (P_ k_ ∨ w.heap.size ≤ k_) ∧ k_ ≠ g1)) (by (with_reducible repeat (first | apply Kd.F_alloc | apply Kd.F_drewN | apply Kd.F_drew)); exact HF0_4.out) (fun k_ hk_ => ⟨hk_.1, hk_.2⟩)) HL0_4.out At117.out).mono ?_); rintro e w118 ⟨v119, rfl, hn119, hb⟩; refine ⟨_, rfl, ?_⟩); refine stop_ ?_)
    refine Stop.go ?_
    obtain ⟨A119, cp119, he_⟩ := Kd.N_slice hn119
    subst he_
    have HL119 := Aside0.mk (Kd.N_reads' hn119).2.1
    have HF119 := Aside0.mk (Kd.F_mono (Kd.N_F hn119) (fun k_ hk_ => hk_.elim (fun h_ => h_) (fun h_ => ⟨.inr (Nat.le_trans (below_size (by repeat (first | (with_reducible first | exact HB.out | apply below_alloc | apply pw_below_drewN | apply below_drew1) | exact HB.out))) h_), Kd.freshB (o := .cells #[.int .i64 a0_0, .bool a0_1, .int .i64 a0_2, .string a0_3, .slice A0_4 l0_4.length c0_4] 28 (0, 0)) (by (with_reducible repeat (first | refine blk_drewN ?_ _ | refine blk_drew ?_ | refine blk_alloc ?_ _)); exact BKg1.out) k_ h_⟩)) : Kd.F Kd.string _ (fun k_ => (P_ k_ ∨ w.heap.size ≤ k_) ∧ k_ ≠ g1) _ _ _)
    clear hn119
    replace HF0_4 := Aside0.mk (Kd.F_below (by (with_reducible repeat (first | apply Kd.F_alloc | apply Kd.F_drewN | apply Kd.F_drew)); exact HF0_4.out) hb)
    replace HF104 := Aside0.mk (Kd.F_below (by (with_reducible repeat (first | apply Kd.F_alloc | apply Kd.F_drewN | apply Kd.F_drew)); exact HF104.out) hb)
    replace BKg1 := Aside0.mk (blk_below (o := .cells #[.int .i64 a0_0, .bool a0_1, .int .i64 a0_2, .string a0_3, .slice A0_4 l0_4.length c0_4] 28 (0, 0)) (by (with_reducible repeat (first | refine blk_drewN ?_ _ | refine blk_drew ?_ | refine blk_alloc ?_ _)); exact BKg1.out) hb)
    replace HB := Aside0.mk (below_step (by repeat (first | (with_reducible first | exact HB.out | apply below_alloc | apply pw_below_drewN | apply below_drew1) | exact HB.out)) hb)
    clear hb
    clear hz105 hz106 hz107 hz108 hz109 hf110 hf111 hf112 hf113 hf114
    have hz120 : w118.cell? ⟨g1, 0, none⟩ = some (.int .i64 a0_0) := (blk_cell BKg1.out 0).trans rfl
    have hz121 : w118.cell? ⟨g1, 1, none⟩ = some (.bool a0_1) := (blk_cell BKg1.out 1).trans rfl
    have hz122 : w118.cell? ⟨g1, 2, none⟩ = some (.int .i64 a0_2) := (blk_cell BKg1.out 2).trans rfl
    have hz123 : w118.cell? ⟨g1, 3, none⟩ = some (.string a0_3) := (blk_cell BKg1.out 3).trans rfl
    have hz124 : w118.cell? ⟨g1, 4, none⟩ = some (.slice A0_4 l0_4.length c0_4) := (blk_cell BKg1.out 4).trans rfl
    have hf125 := blk_frozen BKg1.out 0
    have hf126 := blk_frozen BKg1.out 1
    have hf127 := blk_frozen BKg1.out 2
    have hf128 := blk_frozen BKg1.out 3
    have hf129 := blk_frozen BKg1.out 4
    by_cases c130 : t44 = t58
    · have H := HH.out
      rw [if_pos c130] at H
      replace HH := Aside0.mk H
      clear H
      have hk131 : (t44 == t58) = true := beq_iff_eq.mpr c130
      have hk132 : (t44 != t58) = false := bne_eq_false_iff_eq.mpr c130
      clear c130
      by_cases c133 : t45 = t59
      · have H := HH.out
        rw [if_pos c133] at H
        replace HH := Aside0.mk H
        clear H
        have hk134 : (t45 == t59) = true := beq_iff_eq.mpr c133
        have hk135 : (t45 != t59) = false := bne_eq_false_iff_eq.mpr c133
        clear c133
        by_cases c136 : (t72 == t86) = true
        · have H := HH.out
          rw [if_pos c136] at H
          replace HH := Aside0.mk H
          clear H
          have hk137 : (t72 == t86) = true := c136
          try have hk138 : decide (t72 = t86) = true := by simpa using c136
          try have hk139 : (t72 == t86) = true := by simpa using c136
          clear c136
          by_cases c140 : t73 = t87
          · have H := HH.out
            rw [if_pos c140] at H
            replace HH := Aside0.mk H
            clear H
            have hk141 : (t73 == t87) = true := beq_iff_eq.mpr c140
            have hk142 : (t73 != t87) = false := bne_eq_false_iff_eq.mpr c140
            clear c140
            have H := HH.out
            replace H := Option.bind_eq_some_iff.mp H
            obtain ⟨t143, at_, H⟩ := H
            have At144 := Aside0.mk at_
            clear at_
            replace HH := Aside0.mk (show (if t143 = true then (if t101 = t116 then ((toponymlaw16_awake.f k ).bind fun t150 => (some t150)) else (some false)) else (some false)) = some r from H)
            clear H
            go_wp2_with (((with_reducible refine gate_callee (f := 26) rfl ?_); (try (refine gate_guard (by rfl) ?_; dsimp only)); refine goesL_ (some 70) rfl rfl Try.func26 (by kernel_rfl) rfl #[.slice A104 t100.length cp104, .slice A119 t115.length cp119] rfl (by (try simp only [List.map_toArray, List.map_cons, List.map_nil]); first | done | rfl | (simp only [List.length_drop, List.length_take]; rfl)) ?_; (with_reducible refine (toponymref16_SameTexts.calls k (fun k_ => (P_ k_ ∨ w.heap.size ≤ k_) ∧ k_ ≠ g1) _ _ t100 _ _ t115 t143 _ (Kd.F_mono (ok := (fun k_ => (P_ k_ ∨ w.heap.size ≤ k_) ∧ k_ ≠ g1)) (by (with_reducible repeat (first | apply Kd.F_alloc | apply Kd.F_drewN | apply Kd.F_drew)); exact HF104.out) (fun k_ hk_ => ⟨hk_.1, hk_.2⟩)) HL104.out (Kd.F_mono (ok := (fun k_ => (P_ k_ ∨ w.heap.size ≤ k_) ∧ k_ ≠ g1)) (by (with_reducible repeat (first | apply Kd.F_alloc | apply Kd.F_drewN | apply Kd.F_drew)); exact HF119.out) (fun k_ hk_ => ⟨hk_.1, hk_.2⟩)) HL119.out At144.out).mono ?_); rintro e w' ⟨rfl, ⟨nd, rfl⟩⟩; refine ⟨_, rfl, ?_⟩); refine stop_ ?_)
            refine Stop.go ?_
            by_cases c146 : t143 = true
            · have H := HH.out
              rw [if_pos c146] at H
              replace HH := Aside0.mk H
              clear H
              subst c146
              by_cases c147 : t101 = t116
              · have H := HH.out
                rw [if_pos c147] at H
                replace HH := Aside0.mk H
                clear H
                have hk148 : (t101 == t116) = true := beq_iff_eq.mpr c147
                have hk149 : (t101 != t116) = false := bne_eq_false_iff_eq.mpr c147
                clear c147
                have H := HH.out
                replace H := Option.bind_eq_some_iff.mp H
                obtain ⟨t150, at_, H⟩ := H
                have At151 := Aside0.mk at_
                clear at_
                replace HH := Aside0.mk (show (some t150) = some r from H)
                clear H
                go_wp2_with (((with_reducible refine gate_callee (f := 8) rfl ?_); (try (refine gate_guard (by rfl) ?_; dsimp only)); refine goesL_ (some 78) rfl rfl Try.func8 (by kernel_rfl) rfl #[] rfl (by (try simp only [List.map_toArray, List.map_cons, List.map_nil]); first | done | rfl | (simp only [List.length_drop, List.length_take]; rfl)) ?_; (with_reducible refine (toponymlaw16_awake.calls k  t150 _  At151.out).mono ?_); rintro e w152 ⟨rfl, hb⟩; refine ⟨_, rfl, ?_⟩); refine stop_ ?_)
                refine Stop.go ?_
                replace HF0_4 := Aside0.mk (Kd.F_below (by (with_reducible repeat (first | apply Kd.F_alloc | apply Kd.F_drewN | apply Kd.F_drew)); exact HF0_4.out) hb)
                replace HF104 := Aside0.mk (Kd.F_below (by (with_reducible repeat (first | apply Kd.F_alloc | apply Kd.F_drewN | apply Kd.F_drew)); exact HF104.out) hb)
                replace HF119 := Aside0.mk (Kd.F_below (by (with_reducible repeat (first | apply Kd.F_alloc | apply Kd.F_drewN | apply Kd.F_drew)); exact HF119.out) hb)
                replace BKg1 := Aside0.mk (blk_below (o := .cells #[.int .i64 a0_0, .bool a0_1, .int .i64 a0_2, .string a0_3, .slice A0_4 l0_4.length c0_4] 28 (0, 0)) (by (with_reducible repeat (first | refine blk_drewN ?_ _ | refine blk_drew ?_ | refine blk_alloc ?_ _)); exact BKg1.out) hb)
                replace HB := Aside0.mk (below_step (by repeat (first | (with_reducible first | exact HB.out | apply below_alloc | apply pw_below_drewN | apply below_drew1) | exact HB.out)) hb)
                clear hb
                clear hz120 hz121 hz122 hz123 hz124 hf125 hf126 hf127 hf128 hf129
                have hz153 : w152.cell? ⟨g1, 0, none⟩ = some (.int .i64 a0_0) := (blk_cell BKg1.out 0).trans rfl
                have hz154 : w152.cell? ⟨g1, 1, none⟩ = some (.bool a0_1) := (blk_cell BKg1.out 1).trans rfl
                have hz155 : w152.cell? ⟨g1, 2, none⟩ = some (.int .i64 a0_2) := (blk_cell BKg1.out 2).trans rfl
                have hz156 : w152.cell? ⟨g1, 3, none⟩ = some (.string a0_3) := (blk_cell BKg1.out 3).trans rfl
                have hz157 : w152.cell? ⟨g1, 4, none⟩ = some (.slice A0_4 l0_4.length c0_4) := (blk_cell BKg1.out 4).trans rfl
                have hf158 := blk_frozen BKg1.out 0
                have hf159 := blk_frozen BKg1.out 1
                have hf160 := blk_frozen BKg1.out 2
                have hf161 := blk_frozen BKg1.out 3
                have hf162 := blk_frozen BKg1.out 4
                have H := HH.out
                obtain rfl := Option.some.inj H
                clear HH
                go_wp2
                go_ret
                exact ⟨by first | rfl | (simp; done) | (simp [*]; done), (by repeat (first | (with_reducible first | exact HB.out | apply below_alloc | apply pw_below_drewN | apply below_drew1) | exact HB.out))⟩
              · have H := HH.out
                rw [if_neg c147] at H
                replace HH := Aside0.mk H
                clear H
                have hk163 : (t101 == t116) = false := beq_eq_false_iff_ne.mpr c147
                have hk164 : (t101 != t116) = true := bne_iff_ne.mpr c147
                clear c147
                have H := HH.out
                obtain rfl := Option.some.inj H
                clear HH
                go_wp2
                go_ret
                exact ⟨by first | rfl | (simp; done) | (simp [*]; done), (by repeat (first | (with_reducible first | exact HB.out | apply below_alloc | apply pw_below_drewN | apply below_drew1) | exact HB.out))⟩
            · have H := HH.out
              rw [if_neg c146] at H
              replace HH := Aside0.mk H
              clear H
              replace c146 := Bool.eq_false_iff.mpr c146
              subst c146
              have H := HH.out
              obtain rfl := Option.some.inj H
              clear HH
              go_wp2
              go_ret
              exact ⟨by first | rfl | (simp; done) | (simp [*]; done), (by repeat (first | (with_reducible first | exact HB.out | apply below_alloc | apply pw_below_drewN | apply below_drew1) | exact HB.out))⟩
          · have H := HH.out
            rw [if_neg c140] at H
            replace HH := Aside0.mk H
            clear H
            have hk165 : (t73 == t87) = false := beq_eq_false_iff_ne.mpr c140
            have hk166 : (t73 != t87) = true := bne_iff_ne.mpr c140
            clear c140
            have H := HH.out
            obtain rfl := Option.some.inj H
            clear HH
            go_wp2
            go_ret
            exact ⟨by first | rfl | (simp; done) | (simp [*]; done), (by repeat (first | (with_reducible first | exact HB.out | apply below_alloc | apply pw_below_drewN | apply below_drew1) | exact HB.out))⟩
        · have H := HH.out
          rw [if_neg c136] at H
          replace HH := Aside0.mk H
          clear H
          have hk167 : (t72 == t86) = false := by simpa using c136
          try have hk168 : decide (t72 = t86) = false := by simpa using c136
          try have hk169 : (t72 == t86) = false := by simpa using c136
          try have hk170 : ¬ (t72 = t86) := by simpa using c136
          clear c136
          have H := HH.out
          obtain rfl := Option.some.inj H
          clear HH
          go_wp2
          go_ret
          exact ⟨by first | rfl | (simp; done) | (simp [*]; done), (by repeat (first | (with_reducible first | exact HB.out | apply below_alloc | apply pw_below_drewN | apply below_drew1) | exact HB.out))⟩
      · have H := HH.out
        rw [if_neg c133] at H
        replace HH := Aside0.mk H
        clear H
        have hk171 : (t45 == t59) = false := beq_eq_false_iff_ne.mpr c133
        have hk172 : (t45 != t59) = true := bne_iff_ne.mpr c133
        clear c133
        have H := HH.out
        obtain rfl := Option.some.inj H
        clear HH
        go_wp2
        go_ret
        exact ⟨by first | rfl | (simp; done) | (simp [*]; done), (by repeat (first | (with_reducible first | exact HB.out | apply below_alloc | apply pw_below_drewN | apply below_drew1) | exact HB.out))⟩
    · have H := HH.out
      rw [if_neg c130] at H
      replace HH := Aside0.mk H
      clear H
      have hk173 : (t44 == t58) = false := beq_eq_false_iff_ne.mpr c130
      have hk174 : (t44 != t58) = true := bne_iff_ne.mpr c130
      clear c130
      have H := HH.out
      obtain rfl := Option.some.inj H
      clear HH
      go_wp2
      go_ret
      exact ⟨by first | rfl | (simp; done) | (simp [*]; done), (by repeat (first | (with_reducible first | exact HB.out | apply below_alloc | apply pw_below_drewN | apply below_drew1) | exact HB.out))⟩

end Go.Proofs.Ytliackbiljhioaa.GA
