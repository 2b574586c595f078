-- written by wip/gen.py, a program of this session
import Derived.Test.YtliackbiljhioaaGA0
import Derived.Test.YtliackbiljhioaaGAF10
import Derived.Test.YtliackbiljhioaaGAF11
import Derived.Test.YtliackbiljhioaaGAF12
import Derived.Test.YtliackbiljhioaaGAF13
import Derived.Test.YtliackbiljhioaaGAF8
import Derived.Test.YtliackbiljhioaaGAF9
namespace Go.Proofs.Ytliackbiljhioaa.GA
open Go.RowKit Go.Proofs.Ytliackbiljhioaa Go.Proofs.Ytliackbiljhioaa.MW Go.Proofs.YtliackbiljhioaaW.PrintWords Go.Proofs.YtliackbiljhioaaW.PrintLast Go.Proofs.YtliackbiljhioaaW.PrintMore
attribute [local go_sem] max2_int min2_int max_two min_two
set_option linter.unusedVariables false
set_option linter.unusedSimpArgs false

/-! ### toponymlaw16_PrimsGroups: function 3 -/
def toponymlaw16_PrimsGroups.l0 : Nat → Int → Int → Int → Int → (List (S28)) → Option (Bool)
  | 0, _, _, _, _, _ => none
  | k + 1, x7, x8, a0_0, a0_1, l1 => if x8 < (l1.length : Int) then (if x7 < 0 then ((toponymlaw16_awake.f k ).bind fun t21 => (some t21)) else (if 0 ≤ x8 then ((toponymlaw15_Few.f k ((rd_T28 l1 x8).f0) ((rd_T28 l1 x8).f1) ((rd_T28 l1 x8).f2) ((rd_T28 l1 x8).f3) ((rd_T28 l1 x8).f4) x7).bind fun t33 => ((toponymlaw16_PrimsGroups.l0 k t33 (wrap64 (x8 + 1)) a0_0 a0_1 l1))) else (none))) else (if x7 < 0 then ((toponymlaw16_awake.f k ).bind fun t46 => (some t46)) else ((prims_Group.f a0_0 a0_1 l1).bind fun bt55 => ((toponymref16_Group.f a0_0 a0_1 l1).bind fun bt99 => ((toponymref15_Same.f k bt55.1 bt55.2.1 bt55.2.2.1 bt55.2.2.2.1 bt55.2.2.2.2.1 bt99.1 bt99.2.1 bt99.2.2.1 bt99.2.2.2.1 bt99.2.2.2.2.1).bind fun t173 => (if t173 = true then (if bt55.2.2.2.2.2 = bt99.2.2.2.2.2 then ((prims_Is.f bt55.1 bt55.2.1 bt55.2.2.1 bt55.2.2.2.1 bt55.2.2.2.2.1 a0_0 a0_1 true).bind fun t204 => (if (t204 == (bt99.2.2.2.2.2 == 0)) = true then ((toponymlaw16_awake.f k ).bind fun t235 => (some t235)) else (some false))) else (some false)) else (some false))))))
def toponymlaw16_PrimsGroups.f (k : Nat) (a0_0 : Int) (a0_1 : Int) (l1 : List (S28)) : Option (Bool) := (toponymlaw16_PrimsGroups.l0 k 200 0 a0_0 a0_1 l1)
theorem toponymlaw16_PrimsGroups.mono_l : ∀ k, (∀ y0 y1 y2 y3 y4, LeO (toponymlaw16_PrimsGroups.l0 k y0 y1 y2 y3 y4) (toponymlaw16_PrimsGroups.l0 (k + 1) y0 y1 y2 y3 y4))
  | 0 => fun _ _ _ _ _ r h => by simp [toponymlaw16_PrimsGroups.l0] at h
  | k + 1 => by
    have ih0 := toponymlaw16_PrimsGroups.mono_l k
    · intro y0 y1 y2 y3 y4
      unfold toponymlaw16_PrimsGroups.l0
      repeat' first
      | (with_reducible exact ih0 _ _ _ _ _)
      | (with_reducible exact toponymlaw15_Few.mono _ _ _ _ _ _ _)
      | (with_reducible exact toponymlaw16_awake.mono _)
      | (with_reducible exact toponymref15_Same.mono _ _ _ _ _ _ _ _ _ _ _)
      | (with_reducible exact LeO.refl _)
      | (with_reducible exact LeO.none _)
      | (with_reducible refine LeO.ite ?_ ?_)
      | (with_reducible refine LeO.bind ?_ (fun _ => ?_))
      | exact ih0 _ _ _ _ _
      | exact toponymlaw15_Few.mono _ _ _ _ _ _ _
      | exact toponymlaw16_awake.mono _
      | exact toponymref15_Same.mono _ _ _ _ _ _ _ _ _ _ _
      | exact LeO.none _
      | refine LeO.ite ?_ ?_
      | refine LeO.bind ?_ (fun _ => ?_)
theorem toponymlaw16_PrimsGroups.mono : ∀ a0_ a1_ a2_ k, LeO (toponymlaw16_PrimsGroups.f k a0_ a1_ a2_) (toponymlaw16_PrimsGroups.f (k + 1) a0_ a1_ a2_) := by
  intro a0_ a1_ a2_ k
  have ih0 := toponymlaw16_PrimsGroups.mono_l k
  unfold toponymlaw16_PrimsGroups.f
  repeat' first
      | (with_reducible exact ih0 _ _ _ _ _)
      | (with_reducible exact toponymlaw15_Few.mono _ _ _ _ _ _ _)
      | (with_reducible exact toponymlaw16_awake.mono _)
      | (with_reducible exact toponymref15_Same.mono _ _ _ _ _ _ _ _ _ _ _)
      | (with_reducible exact LeO.refl _)
      | (with_reducible exact LeO.none _)
      | (with_reducible refine LeO.ite ?_ ?_)
      | (with_reducible refine LeO.bind ?_ (fun _ => ?_))
      | exact ih0 _ _ _ _ _
      | exact toponymlaw15_Few.mono _ _ _ _ _ _ _
      | exact toponymlaw16_awake.mono _
      | exact toponymref15_Same.mono _ _ _ _ _ _ _ _ _ _ _
      | exact LeO.none _
      | refine LeO.ite ?_ ?_
      | refine LeO.bind ?_ (fun _ => ?_)
set_option maxHeartbeats 8000000 in
set_option maxRecDepth 100000 in
theorem toponymlaw16_PrimsGroups.calls (k : Nat) (P_ : Nat → Prop) (a0_0 : Int) (a0_1 : Int) (A1 : Option Addr) (c1 : Nat) (l1 : List (S28)) (r : Bool) (w : World) (hs1 : Kd.F k28 w P_ A1 l1.length l1) (hc1 : l1.length ≤ c1) (h : toponymlaw16_PrimsGroups.f k a0_0 a0_1 l1 = some r) :
    Calls Try.prog 3 #[.agg #[.int .i64 a0_0, .int .i64 a0_1], .slice A1 l1.length c1] w (fun e w' => e = .returned (.bool r) ∧ Below w.heap.size w w') := by
  have HH := Aside0.mk (show ((toponymlaw16_PrimsGroups.l0 k 200 0 a0_0 a0_1 l1)) = some r from h)
  clear h
  have HF1 := Aside0.mk (Kd.F_mono hs1 (fun k_ hk_ => (.inl hk_ : P_ k_ ∨ w.heap.size ≤ k_)))
  have HL1 := Aside0.mk hc1
  clear hs1 hc1
  have HB := Aside0.mk (Below.refl w.heap.size w)
  have hu23 := Try.underlying23
  have hu28 := Try.underlying28
  go_enter Try.func3, Try.ntmps3
  go_wp2_with (((with_reducible refine gate_dst (N := 2) rfl ?_); (try (refine gate_guard (by rfl) ?_; dsimp only)); refine box_event ?hg (N := 2) ?hd (cs := #[.int .i64 a0_0, .int .i64 a0_1]) (t := 23) ?hr ?_; (case hd => rfl); (case hg => rfl); (case hr => first | (go_simp; done) | (go_simp; rfl)); intro g1 hg w2 hbox hb); replace hg := Aside0.mk hg; replace hbox := Aside0.mk hbox; refine stop_ ?_)
  refine Stop.go ?_
  replace hg := hg.out
  replace hbox := hbox.out
  have GEg1 := Aside0.mk (by rw [hg]; exact (below_size HB.out) : w.heap.size ≤ g1)
  replace HF1 := Aside0.mk (Kd.F_elderB HF1.out g1 (Nat.le_of_eq hg.symm))
  replace HF1 := Aside0.mk (Kd.F_mono HF1.out (fun k_ hk_ => ⟨hk_.1, hk_.2⟩) : Kd.F k28 _ (fun k_ => (P_ k_ ∨ w.heap.size ≤ k_) ∧ k_ ≠ g1) _ _ _)
  replace HF1 := Aside0.mk (Kd.F_below HF1.out hb)
  replace HB := Aside0.mk (below_step HB.out hb)
  have BKg1 := Aside0.mk hbox
  clear hg hbox hb
  have hz3 : w2.cell? ⟨g1, 0, none⟩ = some (.int .i64 a0_0) := (blk_cell BKg1.out 0).trans rfl
  have hz4 : w2.cell? ⟨g1, 1, none⟩ = some (.int .i64 a0_1) := (blk_cell BKg1.out 1).trans rfl
  have hf5 := blk_frozen BKg1.out 0
  have hf6 := blk_frozen BKg1.out 1
  go_wp2
  go_loopg [5, 6] k (fun kq u5 u6 w' => ∃ (x7 : Int) (x8 : Int), u5 = .int .i64 x7 ∧ u6 = .int .i64 x8 ∧ Aside0 ((toponymlaw16_PrimsGroups.l0 kq x7 x8 a0_0 a0_1 l1) = some r) ∧ Aside0 (kq ≤ k) ∧ Aside0 (Kd.F k28 w' (fun k_ => (P_ k_ ∨ w.heap.size ≤ k_) ∧ k_ ≠ g1) A1 l1.length l1) ∧ Aside0 (w'.heap[g1]? = some (.cells #[.int .i64 a0_0, .int .i64 a0_1] 23 (0, 0))) ∧ Aside0 (Below w.heap.size w w'))
  case atStart => exact ⟨200, 0, (by first | rfl | (simp; done) | (simp [*]; done)), (by first | rfl | (simp; done) | (simp [*]; done)), HH, ⟨Nat.le_refl _⟩, ⟨(Kd.F_mono (ok := (fun k_ => (P_ k_ ∨ w.heap.size ≤ k_) ∧ k_ ≠ g1)) HF1.out (fun k_ hk_ => ⟨hk_.1, hk_.2⟩))⟩, ⟨BKg1.out⟩, ⟨HB.out⟩⟩
  case round =>
    clear hz3 hz4 hf5 hf6
    clear HH
    clear HF1 BKg1 HB
    obtain ⟨x7, x8, rfl, rfl, HA, HK0, HF1, BKg1, HB⟩ := hrel
    obtain ⟨w10, rfl⟩ : ∃ wo_ : World, wo_ = wr := ⟨_, rfl⟩
    cases gk with
    | zero => exact absurd HA.out (by simp [toponymlaw16_PrimsGroups.l0])
    | succ k9 =>
      have H := HA.out
      clear HA
      simp only [toponymlaw16_PrimsGroups.l0] at H
      have HH := Aside0.mk H
      clear H
      have hz11 : w10.cell? ⟨g1, 0, none⟩ = some (.int .i64 a0_0) := (blk_cell BKg1.out 0).trans rfl
      have hz12 : w10.cell? ⟨g1, 1, none⟩ = some (.int .i64 a0_1) := (blk_cell BKg1.out 1).trans rfl
      have hf13 := blk_frozen BKg1.out 0
      have hf14 := blk_frozen BKg1.out 1
      by_cases c15 : x8 < (l1.length : Int)
      · have H := HH.out
        rw [if_pos c15] at H
        replace HH := Aside0.mk H
        clear H
        have hk16 : (x8 < (l1.length : Int)) = True := eq_true c15
        have hk17 : decide (x8 < (l1.length : Int)) = true := decide_eq_true c15
        clear c15
        by_cases c18 : x7 < 0
        · have H := HH.out
          rw [if_pos c18] at H
          replace HH := Aside0.mk H
          clear H
          have hk19 : (x7 < 0) = True := eq_true c18
          have hk20 : decide (x7 < 0) = true := decide_eq_true c18
          clear c18
          have H := HH.out
          replace H := Option.bind_eq_some_iff.mp H
          obtain ⟨t21, at_, H⟩ := H
          have At22 := Aside0.mk at_
          clear at_
          replace HH := Aside0.mk (show (some t21) = some r from H)
          clear H
          go_wp2_with (((with_reducible refine gate_callee (f := 8) rfl ?_); (try (refine gate_guard (by rfl) ?_; dsimp only)); refine goesL_ (some 19) rfl rfl Try.func8 (by kernel_rfl) rfl #[] rfl (by (try simp only [List.map_toArray, List.map_cons, List.map_nil]); first | done | rfl | (simp only [List.length_drop, List.length_take]; rfl)) ?_; (with_reducible refine (toponymlaw16_awake.calls k9  t21 _  At22.out).mono ?_); rintro e w23 ⟨rfl, hb⟩; refine ⟨_, rfl, ?_⟩); refine stop_ ?_)
          refine Stop.go ?_
          replace HF1 := Aside0.mk (Kd.F_below HF1.out hb)
          replace BKg1 := Aside0.mk (blk_below (o := .cells #[.int .i64 a0_0, .int .i64 a0_1] 23 (0, 0)) BKg1.out hb)
          replace HB := Aside0.mk (below_step HB.out hb)
          clear hb
          clear hz11 hz12 hf13 hf14
          have hz24 : w23.cell? ⟨g1, 0, none⟩ = some (.int .i64 a0_0) := (blk_cell BKg1.out 0).trans rfl
          have hz25 : w23.cell? ⟨g1, 1, none⟩ = some (.int .i64 a0_1) := (blk_cell BKg1.out 1).trans rfl
          have hf26 := blk_frozen BKg1.out 0
          have hf27 := blk_frozen BKg1.out 1
          have H := HH.out
          obtain rfl := Option.some.inj H
          clear HH
          go_wp2
          go_ret
          exact ⟨by first | rfl | (simp; done) | (simp [*]; done), HB.out⟩
        · have H := HH.out
          rw [if_neg c18] at H
          replace HH := Aside0.mk H
          clear H
          have hk28 : (x7 < 0) = False := eq_false c18
          have hk29 : decide (x7 < 0) = false := decide_eq_false c18
          clear c18
          by_cases c30 : 0 ≤ x8
          · have H := HH.out
            rw [if_pos c30] at H
            replace HH := Aside0.mk H
            clear H
            have hk31 : decide (0 ≤ x8) = true := decide_eq_true c30
            clear c30
            have p32 : 0 ≤ (x8 : Int) := of_decide_eq_true (by first | (with_reducible assumption) | assumption)
            have q32 : x8 < (l1.length : Int) := of_decide_eq_true (by first | (with_reducible assumption) | assumption)
            obtain ⟨ad32, A32_4, c32_4, e32, hx32_0, hx32_1, hx32_2, hx32_3, hx32_4, hl32_4, hi32_4⟩ := atF_T28 HF1.out x8 p32 q32
            cases e32
            have HF32_4 := Aside0.mk hi32_4
            have HL32_4 := Aside0.mk hl32_4
            clear hi32_4 hl32_4
            replace p32 := eq_true p32
            replace q32 := eq_true q32
            have H := HH.out
            replace H := Option.bind_eq_some_iff.mp H
            obtain ⟨t33, at_, H⟩ := H
            have At34 := Aside0.mk at_
            clear at_
            replace HH := Aside0.mk (show ((toponymlaw16_PrimsGroups.l0 k9 t33 (wrap64 (x8 + 1)) a0_0 a0_1 l1)) = some r from H)
            clear H
            go_wp2_with (((with_reducible refine gate_callee (f := 9) rfl ?_); (try (refine gate_guard (by rfl) ?_; dsimp only)); refine goesL_ (some 25) rfl rfl Try.func9 (by kernel_rfl) rfl #[.agg #[.int .i64 ((rd_T28 l1 x8).f0), .bool ((rd_T28 l1 x8).f1), .int .i64 ((rd_T28 l1 x8).f2), .string ((rd_T28 l1 x8).f3), .slice A32_4 ((rd_T28 l1 x8).f4).length c32_4], .int .i64 x7] rfl (by (try simp only [List.map_toArray, List.map_cons, List.map_nil]); first | done | rfl | (simp only [List.length_drop, List.length_take]; rfl)) ?_; (with_reducible refine (toponymlaw15_Few.calls k9 (fun k_ => (P_ k_ ∨ w.heap.size ≤ k_) ∧ k_ ≠ g1) ((rd_T28 l1 x8).f0) ((rd_T28 l1 x8).f1) ((rd_T28 l1 x8).f2) ((rd_T28 l1 x8).f3) _ _ ((rd_T28 l1 x8).f4) x7 t33 _ (Kd.F_mono (ok := (fun k_ => (P_ k_ ∨ w.heap.size ≤ k_) ∧ k_ ≠ g1)) HF32_4.out (fun k_ hk_ => ⟨hk_.1, hk_.2⟩)) HL32_4.out At34.out).mono ?_); rintro e w35 ⟨rfl, hb⟩; refine ⟨_, rfl, ?_⟩); refine stop_ ?_)
            refine Stop.go ?_
            replace HF1 := Aside0.mk (Kd.F_below HF1.out hb)
            replace HF32_4 := Aside0.mk (Kd.F_below HF32_4.out hb)
            replace BKg1 := Aside0.mk (blk_below (o := .cells #[.int .i64 a0_0, .int .i64 a0_1] 23 (0, 0)) BKg1.out hb)
            replace HB := Aside0.mk (below_step HB.out hb)
            clear hb
            clear hz11 hz12 hf13 hf14 hx32_0 hx32_1 hx32_2 hx32_3 hx32_4 p32 q32
            have hz36 : w35.cell? ⟨g1, 0, none⟩ = some (.int .i64 a0_0) := (blk_cell BKg1.out 0).trans rfl
            have hz37 : w35.cell? ⟨g1, 1, none⟩ = some (.int .i64 a0_1) := (blk_cell BKg1.out 1).trans rfl
            have hf38 := blk_frozen BKg1.out 0
            have hf39 := blk_frozen BKg1.out 1
            go_wp2
            go_roundg k9
            case measure => have := HK0.out; omega
            case rel => exact ⟨t33, wrap64 (x8 + 1), (by first | rfl | (simp; done) | (simp [*]; done)), (by first | rfl | (simp; done) | (simp [*]; done)), HH, ⟨by have := HK0.out; omega⟩, ⟨(Kd.F_mono (ok := (fun k_ => (P_ k_ ∨ w.heap.size ≤ k_) ∧ k_ ≠ g1)) HF1.out (fun k_ hk_ => ⟨hk_.1, hk_.2⟩))⟩, ⟨BKg1.out⟩, ⟨HB.out⟩⟩
          · exact absurd HH.out (by rw [if_neg c30]; simp)
      · have H := HH.out
        rw [if_neg c15] at H
        replace HH := Aside0.mk H
        clear H
        have hk41 : (x8 < (l1.length : Int)) = False := eq_false c15
        have hk42 : decide (x8 < (l1.length : Int)) = false := decide_eq_false c15
        clear c15
        by_cases c43 : x7 < 0
        · have H := HH.out
          rw [if_pos c43] at H
          replace HH := Aside0.mk H
          clear H
          have hk44 : (x7 < 0) = True := eq_true c43
          have hk45 : decide (x7 < 0) = true := decide_eq_true c43
          clear c43
          have H := HH.out
          replace H := Option.bind_eq_some_iff.mp H
          obtain ⟨t46, at_, H⟩ := H
          have At47 := Aside0.mk at_
          clear at_
          replace HH := Aside0.mk (show (some t46) = some r from H)
          clear H
          go_wp2_with (((with_reducible refine gate_callee (f := 8) rfl ?_); (try (refine gate_guard (by rfl) ?_; dsimp only)); refine goesL_ (some 28) rfl rfl Try.func8 (by kernel_rfl) rfl #[] rfl (by (try simp only [List.map_toArray, List.map_cons, List.map_nil]); first | done | rfl | (simp only [List.length_drop, List.length_take]; rfl)) ?_; (with_reducible refine (toponymlaw16_awake.calls k9  t46 _  At47.out).mono ?_); rintro e w48 ⟨rfl, hb⟩; refine ⟨_, rfl, ?_⟩); refine stop_ ?_)
          refine Stop.go ?_
          replace HF1 := Aside0.mk (Kd.F_below HF1.out hb)
          replace BKg1 := Aside0.mk (blk_below (o := .cells #[.int .i64 a0_0, .int .i64 a0_1] 23 (0, 0)) BKg1.out hb)
          replace HB := Aside0.mk (below_step HB.out hb)
          clear hb
          clear hz11 hz12 hf13 hf14
          have hz49 : w48.cell? ⟨g1, 0, none⟩ = some (.int .i64 a0_0) := (blk_cell BKg1.out 0).trans rfl
          have hz50 : w48.cell? ⟨g1, 1, none⟩ = some (.int .i64 a0_1) := (blk_cell BKg1.out 1).trans rfl
          have hf51 := blk_frozen BKg1.out 0
          have hf52 := blk_frozen BKg1.out 1
          have H := HH.out
          obtain rfl := Option.some.inj H
          clear HH
          go_wp2
          go_ret
          exact ⟨by first | rfl | (simp; done) | (simp [*]; done), HB.out⟩
        · have H := HH.out
          rw [if_neg c43] at H
          replace HH := Aside0.mk H
          clear H
          have hk53 : (x7 < 0) = False := eq_false c43
          have hk54 : decide (x7 < 0) = false := decide_eq_false c43
          clear c43
          have H := HH.out
          replace H := Option.bind_eq_some_iff.mp H
          obtain ⟨⟨t55, t56, t57, t58, t59, t60⟩, at_, H⟩ := H
          have At61 := Aside0.mk at_
          clear at_
          replace HH := Aside0.mk (show ((toponymref16_Group.f a0_0 a0_1 l1).bind fun bt99 => ((toponymref15_Same.f k9 t55 t56 t57 t58 t59 bt99.1 bt99.2.1 bt99.2.2.1 bt99.2.2.2.1 bt99.2.2.2.2.1).bind fun t173 => (if t173 = true then (if t60 = bt99.2.2.2.2.2 then ((prims_Is.f t55 t56 t57 t58 t59 a0_0 a0_1 true).bind fun t204 => (if (t204 == (bt99.2.2.2.2.2 == 0)) = true then ((toponymlaw16_awake.f k9 ).bind fun t235 => (some t235)) else (some false))) else (some false)) else (some false)))) = some r from H)
          clear H
          go_wp2_with (((with_reducible refine gate_callee (f := 10) rfl ?_); (try (refine gate_guard (by rfl) ?_; dsimp only)); refine goesL_ (some 35) rfl rfl Try.func10 (by kernel_rfl) rfl #[.int .i64 a0_0, .int .i64 a0_1, .slice A1 l1.length c1] rfl (by (try simp only [List.map_toArray, List.map_cons, List.map_nil]); first | done | rfl | (simp only [List.length_drop, List.length_take]; rfl)) ?_; (with_reducible refine (prims_Group.calls (fun k_ => (P_ k_ ∨ w.heap.size ≤ k_) ∧ k_ ≠ g1) a0_0 a0_1 _ _ l1 t55 t56 t57 t58 t59 t60 _ (Kd.F_mono (ok := (fun k_ => (P_ k_ ∨ w.heap.size ≤ k_) ∧ k_ ≠ g1)) HF1.out (fun k_ hk_ => ⟨hk_.1, hk_.2⟩)) HL1.out At61.out).mono ?_); rintro e w62 ⟨A63, cp63, rfl, hl63, hn63, hb⟩; refine ⟨_, rfl, ?_⟩); refine stop_ ?_)
          refine Stop.go ?_
          have HL63 := Aside0.mk hl63
          have HF63 := Aside0.mk (Kd.F_mono hn63 (fun k_ hk_ => hk_.elim (fun h_ => h_) (fun h_ => ⟨.inr (Nat.le_trans (below_size HB.out) h_), Kd.freshB (o := .cells #[.int .i64 a0_0, .int .i64 a0_1] 23 (0, 0)) BKg1.out k_ h_⟩)) : Kd.F k28 _ (fun k_ => (P_ k_ ∨ w.heap.size ≤ k_) ∧ k_ ≠ g1) _ _ _)
          clear hn63 hl63
          replace HF1 := Aside0.mk (Kd.F_below HF1.out hb)
          replace BKg1 := Aside0.mk (blk_below (o := .cells #[.int .i64 a0_0, .int .i64 a0_1] 23 (0, 0)) BKg1.out hb)
          replace HB := Aside0.mk (below_step HB.out hb)
          clear hb
          clear hz11 hz12 hf13 hf14
          have hz64 : w62.cell? ⟨g1, 0, none⟩ = some (.int .i64 a0_0) := (blk_cell BKg1.out 0).trans rfl
          have hz65 : w62.cell? ⟨g1, 1, none⟩ = some (.int .i64 a0_1) := (blk_cell BKg1.out 1).trans rfl
          have hf66 := blk_frozen BKg1.out 0
          have hf67 := blk_frozen BKg1.out 1
          go_wp2_with (((with_reducible refine gate_dst (N := 7) rfl ?_); (try (refine gate_guard (by rfl) ?_; dsimp only)); refine box_event ?hg (N := 7) ?hd (cs := #[.int .i64 0, .bool false, .int .i64 0, .string (⟨#[]⟩ : ByteArray), .slice none 0 0]) (t := 28) ?hr ?_; (case hd => rfl); (case hg => rfl); (case hr => first | (go_simp; done) | (go_simp; rfl)); intro g68 hg w69 hbox hb); replace hg := Aside0.mk hg; replace hbox := Aside0.mk hbox; refine stop_ ?_)
          refine Stop.go ?_
          replace hg := hg.out
          replace hbox := hbox.out
          have GEg68 := Aside0.mk (by rw [hg]; exact (below_size HB.out) : w.heap.size ≤ g68)
          replace HF1 := Aside0.mk (Kd.F_elderB HF1.out g68 (Nat.le_of_eq hg.symm))
          replace HF1 := Aside0.mk (Kd.F_mono HF1.out (fun k_ hk_ => ⟨hk_.1.1, hk_.1.2, hk_.2⟩) : Kd.F k28 _ (fun k_ => (P_ k_ ∨ w.heap.size ≤ k_) ∧ k_ ≠ g1 ∧ k_ ≠ g68) _ _ _)
          replace HF63 := Aside0.mk (Kd.F_elderB HF63.out g68 (Nat.le_of_eq hg.symm))
          replace HF63 := Aside0.mk (Kd.F_mono HF63.out (fun k_ hk_ => ⟨hk_.1.1, hk_.1.2, hk_.2⟩) : Kd.F k28 _ (fun k_ => (P_ k_ ∨ w.heap.size ≤ k_) ∧ k_ ≠ g1 ∧ k_ ≠ g68) _ _ _)
          have NEg1_g68 := Aside0.mk (by rw [hg]; exact Nat.ne_of_lt (blk_lt (o := .cells #[.int .i64 a0_0, .int .i64 a0_1] 23 (0, 0)) BKg1.out) : g1 ≠ g68)
          have NEg68_g1 := Aside0.mk (Ne.symm NEg1_g68.out)
          replace HF1 := Aside0.mk (Kd.F_below HF1.out hb)
          replace HF63 := Aside0.mk (Kd.F_below HF63.out hb)
          replace BKg1 := Aside0.mk (blk_below (o := .cells #[.int .i64 a0_0, .int .i64 a0_1] 23 (0, 0)) BKg1.out hb)
          replace HB := Aside0.mk (below_step HB.out hb)
          have BKg68 := Aside0.mk hbox
          clear hg hbox hb
          clear hz64 hz65 hf66 hf67
          have hz70 : w69.cell? ⟨g1, 0, none⟩ = some (.int .i64 a0_0) := (blk_cell BKg1.out 0).trans rfl
          have hz71 : w69.cell? ⟨g1, 1, none⟩ = some (.int .i64 a0_1) := (blk_cell BKg1.out 1).trans rfl
          have hf72 := blk_frozen BKg1.out 0
          have hf73 := blk_frozen BKg1.out 1
          have hz74 : w69.cell? ⟨g68, 0, none⟩ = some (.int .i64 0) := (blk_cell BKg68.out 0).trans rfl
          have hz75 : w69.cell? ⟨g68, 1, none⟩ = some (.bool false) := (blk_cell BKg68.out 1).trans rfl
          have hz76 : w69.cell? ⟨g68, 2, none⟩ = some (.int .i64 0) := (blk_cell BKg68.out 2).trans rfl
          have hz77 : w69.cell? ⟨g68, 3, none⟩ = some (.string (⟨#[]⟩ : ByteArray)) := (blk_cell BKg68.out 3).trans rfl
          have hz78 : w69.cell? ⟨g68, 4, none⟩ = some (.slice none 0 0) := (blk_cell BKg68.out 4).trans rfl
          have hf79 := blk_frozen BKg68.out 0
          have hf80 := blk_frozen BKg68.out 1
          have hf81 := blk_frozen BKg68.out 2
          have hf82 := blk_frozen BKg68.out 3
          have hf83 := blk_frozen BKg68.out 4
          go_wp2_with (((with_reducible refine gate_store (t := 28) (p := 7) rfl ?_); (try (refine gate_guard (by rfl) ?_; dsimp only)); refine MW.ev_store #[.int .i64 t55, .bool t56, .int .i64 t57, .string t58, .slice A63 t59.length cp63] rfl rfl rfl rfl (cs := #[.int .i64 0, .bool false, .int .i64 0, .string (⟨#[]⟩ : ByteArray), .slice none 0 0]) (ty := 28) BKg68.out [.int .i64 t55, .bool t56, .int .i64 t57, .string t58, .slice A63 t59.length cp63] rfl (by kernel_rfl) (by simp) (by simp [Value.oneCell']) rfl ?_; intro w84 hbk hg); replace hbk := Aside0.mk hbk; refine stop_ ?_)
          refine Stop.go ?_
          replace hbk := hbk.out
          replace HF1 := Aside0.mk (Kd.F_grown (ok := (fun k_ => (P_ k_ ∨ w.heap.size ≤ k_) ∧ k_ ≠ g1 ∧ k_ ≠ g68)) HF1.out hg (fun k_ hk_ he_ => hk_.2.2 (Option.some.inj he_)))
          replace HF63 := Aside0.mk (Kd.F_grown (ok := (fun k_ => (P_ k_ ∨ w.heap.size ≤ k_) ∧ k_ ≠ g1 ∧ k_ ≠ g68)) HF63.out hg (fun k_ hk_ he_ => hk_.2.2 (Option.some.inj he_)))
          replace BKg1 := Aside0.mk (blk_grown (o := .cells #[.int .i64 a0_0, .int .i64 a0_1] 23 (0, 0)) BKg1.out hg (fun he_ => NEg1_g68.out (Option.some.inj he_)))
          replace HB := Aside0.mk (Below.grown HB.out hg (below_size HB.out) (fun k_ hk_ => by injection hk_ with hk_; rw [← hk_]; exact GEg68.out))
          replace BKg68 := Aside0.mk hbk
          clear hg hbk
          clear hz70 hz71 hf72 hf73 hz74 hz75 hz76 hz77 hz78 hf79 hf80 hf81 hf82 hf83
          have hz85 : w84.cell? ⟨g1, 0, none⟩ = some (.int .i64 a0_0) := (blk_cell BKg1.out 0).trans rfl
          have hz86 : w84.cell? ⟨g1, 1, none⟩ = some (.int .i64 a0_1) := (blk_cell BKg1.out 1).trans rfl
          have hf87 := blk_frozen BKg1.out 0
          have hf88 := blk_frozen BKg1.out 1
          have hz89 : w84.cell? ⟨g68, 0, none⟩ = some (.int .i64 t55) := (blk_cell BKg68.out 0).trans rfl
          have hz90 : w84.cell? ⟨g68, 1, none⟩ = some (.bool t56) := (blk_cell BKg68.out 1).trans rfl
          have hz91 : w84.cell? ⟨g68, 2, none⟩ = some (.int .i64 t57) := (blk_cell BKg68.out 2).trans rfl
          have hz92 : w84.cell? ⟨g68, 3, none⟩ = some (.string t58) := (blk_cell BKg68.out 3).trans rfl
          have hz93 : w84.cell? ⟨g68, 4, none⟩ = some (.slice A63 t59.length cp63) := (blk_cell BKg68.out 4).trans rfl
          have hf94 := blk_frozen BKg68.out 0
          have hf95 := blk_frozen BKg68.out 1
          have hf96 := blk_frozen BKg68.out 2
          have hf97 := blk_frozen BKg68.out 3
          have hf98 := blk_frozen BKg68.out 4
          have H := HH.out
          replace H := Option.bind_eq_some_iff.mp H
          obtain ⟨⟨t99, t100, t101, t102, t103, t104⟩, at_, H⟩ := H
          have At105 := Aside0.mk at_
          clear at_
          replace HH := Aside0.mk (show ((toponymref15_Same.f k9 t55 t56 t57 t58 t59 t99 t100 t101 t102 t103).bind fun t173 => (if t173 = true then (if t60 = t104 then ((prims_Is.f t55 t56 t57 t58 t59 a0_0 a0_1 true).bind fun t204 => (if (t204 == (t104 == 0)) = true then ((toponymlaw16_awake.f k9 ).bind fun t235 => (some t235)) else (some false))) else (some false)) else (some false))) = some r from H)
          clear H
          go_wp2_with (((with_reducible refine gate_callee (f := 11) rfl ?_); (try (refine gate_guard (by rfl) ?_; dsimp only)); refine goesL_ (some 44) rfl rfl Try.func11 (by kernel_rfl) rfl #[.int .i64 a0_0, .int .i64 a0_1, .slice A1 l1.length c1] rfl (by (try simp only [List.map_toArray, List.map_cons, List.map_nil]); first | done | rfl | (simp only [List.length_drop, List.length_take]; rfl)) ?_; (with_reducible refine (toponymref16_Group.calls (fun k_ => (P_ k_ ∨ w.heap.size ≤ k_) ∧ k_ ≠ g1 ∧ k_ ≠ g68) a0_0 a0_1 _ _ l1 t99 t100 t101 t102 t103 t104 _ (Kd.F_mono (ok := (fun k_ => (P_ k_ ∨ w.heap.size ≤ k_) ∧ k_ ≠ g1 ∧ k_ ≠ g68)) HF1.out (fun k_ hk_ => ⟨hk_.1, hk_.2.1, hk_.2.2⟩)) HL1.out At105.out).mono ?_); rintro e w106 ⟨A107, cp107, rfl, hl107, hn107, hb⟩; refine ⟨_, rfl, ?_⟩); refine stop_ ?_)
          refine Stop.go ?_
          have HL107 := Aside0.mk hl107
          have HF107 := Aside0.mk (Kd.F_mono hn107 (fun k_ hk_ => hk_.elim (fun h_ => h_) (fun h_ => ⟨.inr (Nat.le_trans (below_size HB.out) h_), Kd.freshB (o := .cells #[.int .i64 a0_0, .int .i64 a0_1] 23 (0, 0)) BKg1.out k_ h_, Kd.freshB (o := .cells #[.int .i64 t55, .bool t56, .int .i64 t57, .string t58, .slice A63 t59.length cp63] 28 (0, 0)) BKg68.out k_ h_⟩)) : Kd.F k28 _ (fun k_ => (P_ k_ ∨ w.heap.size ≤ k_) ∧ k_ ≠ g1 ∧ k_ ≠ g68) _ _ _)
          clear hn107 hl107
          replace HF1 := Aside0.mk (Kd.F_below HF1.out hb)
          replace HF63 := Aside0.mk (Kd.F_below HF63.out hb)
          replace BKg1 := Aside0.mk (blk_below (o := .cells #[.int .i64 a0_0, .int .i64 a0_1] 23 (0, 0)) BKg1.out hb)
          replace BKg68 := Aside0.mk (blk_below (o := .cells #[.int .i64 t55, .bool t56, .int .i64 t57, .string t58, .slice A63 t59.length cp63] 28 (0, 0)) BKg68.out hb)
          replace HB := Aside0.mk (below_step HB.out hb)
          clear hb
          clear hz85 hz86 hf87 hf88 hz89 hz90 hz91 hz92 hz93 hf94 hf95 hf96 hf97 hf98
          have hz108 : w106.cell? ⟨g1, 0, none⟩ = some (.int .i64 a0_0) := (blk_cell BKg1.out 0).trans rfl
          have hz109 : w106.cell? ⟨g1, 1, none⟩ = some (.int .i64 a0_1) := (blk_cell BKg1.out 1).trans rfl
          have hf110 := blk_frozen BKg1.out 0
          have hf111 := blk_frozen BKg1.out 1
          have hz112 : w106.cell? ⟨g68, 0, none⟩ = some (.int .i64 t55) := (blk_cell BKg68.out 0).trans rfl
          have hz113 : w106.cell? ⟨g68, 1, none⟩ = some (.bool t56) := (blk_cell BKg68.out 1).trans rfl
          have hz114 : w106.cell? ⟨g68, 2, none⟩ = some (.int .i64 t57) := (blk_cell BKg68.out 2).trans rfl
          have hz115 : w106.cell? ⟨g68, 3, none⟩ = some (.string t58) := (blk_cell BKg68.out 3).trans rfl
          have hz116 : w106.cell? ⟨g68, 4, none⟩ = some (.slice A63 t59.length cp63) := (blk_cell BKg68.out 4).trans rfl
          have hf117 := blk_frozen BKg68.out 0
          have hf118 := blk_frozen BKg68.out 1
          have hf119 := blk_frozen BKg68.out 2
          have hf120 := blk_frozen BKg68.out 3
          have hf121 := blk_frozen BKg68.out 4
          go_wp2_with (((with_reducible refine gate_dst (N := 9) rfl ?_); (try (refine gate_guard (by rfl) ?_; dsimp only)); refine box_event ?hg (N := 9) ?hd (cs := #[.int .i64 0, .bool false, .int .i64 0, .string (⟨#[]⟩ : ByteArray), .slice none 0 0]) (t := 28) ?hr ?_; (case hd => rfl); (case hg => rfl); (case hr => first | (go_simp; done) | (go_simp; rfl)); intro g122 hg w123 hbox hb); replace hg := Aside0.mk hg; replace hbox := Aside0.mk hbox; refine stop_ ?_)
          refine Stop.go ?_
          replace hg := hg.out
          replace hbox := hbox.out
          have GEg122 := Aside0.mk (by rw [hg]; exact (below_size HB.out) : w.heap.size ≤ g122)
          replace HF1 := Aside0.mk (Kd.F_elderB HF1.out g122 (Nat.le_of_eq hg.symm))
          replace HF1 := Aside0.mk (Kd.F_mono HF1.out (fun k_ hk_ => ⟨hk_.1.1, hk_.1.2.1, hk_.1.2.2, hk_.2⟩) : Kd.F k28 _ (fun k_ => (P_ k_ ∨ w.heap.size ≤ k_) ∧ k_ ≠ g1 ∧ k_ ≠ g68 ∧ k_ ≠ g122) _ _ _)
          replace HF63 := Aside0.mk (Kd.F_elderB HF63.out g122 (Nat.le_of_eq hg.symm))
          replace HF63 := Aside0.mk (Kd.F_mono HF63.out (fun k_ hk_ => ⟨hk_.1.1, hk_.1.2.1, hk_.1.2.2, hk_.2⟩) : Kd.F k28 _ (fun k_ => (P_ k_ ∨ w.heap.size ≤ k_) ∧ k_ ≠ g1 ∧ k_ ≠ g68 ∧ k_ ≠ g122) _ _ _)
          replace HF107 := Aside0.mk (Kd.F_elderB HF107.out g122 (Nat.le_of_eq hg.symm))
          replace HF107 := Aside0.mk (Kd.F_mono HF107.out (fun k_ hk_ => ⟨hk_.1.1, hk_.1.2.1, hk_.1.2.2, hk_.2⟩) : Kd.F k28 _ (fun k_ => (P_ k_ ∨ w.heap.size ≤ k_) ∧ k_ ≠ g1 ∧ k_ ≠ g68 ∧ k_ ≠ g122) _ _ _)
          have NEg1_g122 := Aside0.mk (by rw [hg]; exact Nat.ne_of_lt (blk_lt (o := .cells #[.int .i64 a0_0, .int .i64 a0_1] 23 (0, 0)) BKg1.out) : g1 ≠ g122)
          have NEg122_g1 := Aside0.mk (Ne.symm NEg1_g122.out)
          have NEg68_g122 := Aside0.mk (by rw [hg]; exact Nat.ne_of_lt (blk_lt (o := .cells #[.int .i64 t55, .bool t56, .int .i64 t57, .string t58, .slice A63 t59.length cp63] 28 (0, 0)) BKg68.out) : g68 ≠ g122)
          have NEg122_g68 := Aside0.mk (Ne.symm NEg68_g122.out)
          replace HF1 := Aside0.mk (Kd.F_below HF1.out hb)
          replace HF63 := Aside0.mk (Kd.F_below HF63.out hb)
          replace HF107 := Aside0.mk (Kd.F_below HF107.out hb)
          replace BKg1 := Aside0.mk (blk_below (o := .cells #[.int .i64 a0_0, .int .i64 a0_1] 23 (0, 0)) BKg1.out hb)
          replace BKg68 := Aside0.mk (blk_below (o := .cells #[.int .i64 t55, .bool t56, .int .i64 t57, .string t58, .slice A63 t59.length cp63] 28 (0, 0)) BKg68.out hb)
          replace HB := Aside0.mk (below_step HB.out hb)
          have BKg122 := Aside0.mk hbox
          clear hg hbox hb
          clear hz108 hz109 hf110 hf111 hz112 hz113 hz114 hz115 hz116 hf117 hf118 hf119 hf120 hf121
          have hz124 : w123.cell? ⟨g1, 0, none⟩ = some (.int .i64 a0_0) := (blk_cell BKg1.out 0).trans rfl
          have hz125 : w123.cell? ⟨g1, 1, none⟩ = some (.int .i64 a0_1) := (blk_cell BKg1.out 1).trans rfl
          have hf126 := blk_frozen BKg1.out 0
          have hf127 := blk_frozen BKg1.out 1
          have hz128 : w123.cell? ⟨g68, 0, none⟩ = some (.int .i64 t55) := (blk_cell BKg68.out 0).trans rfl
          have hz129 : w123.cell? ⟨g68, 1, none⟩ = some (.bool t56) := (blk_cell BKg68.out 1).trans rfl
          have hz130 : w123.cell? ⟨g68, 2, none⟩ = some (.int .i64 t57) := (blk_cell BKg68.out 2).trans rfl
          have hz131 : w123.cell? ⟨g68, 3, none⟩ = some (.string t58) := (blk_cell BKg68.out 3).trans rfl
          have hz132 : w123.cell? ⟨g68, 4, none⟩ = some (.slice A63 t59.length cp63) := (blk_cell BKg68.out 4).trans rfl
          have hf133 := blk_frozen BKg68.out 0
          have hf134 := blk_frozen BKg68.out 1
          have hf135 := blk_frozen BKg68.out 2
          have hf136 := blk_frozen BKg68.out 3
          have hf137 := blk_frozen BKg68.out 4
          have hz138 : w123.cell? ⟨g122, 0, none⟩ = some (.int .i64 0) := (blk_cell BKg122.out 0).trans rfl
          have hz139 : w123.cell? ⟨g122, 1, none⟩ = some (.bool false) := (blk_cell BKg122.out 1).trans rfl
          have hz140 : w123.cell? ⟨g122, 2, none⟩ = some (.int .i64 0) := (blk_cell BKg122.out 2).trans rfl
          have hz141 : w123.cell? ⟨g122, 3, none⟩ = some (.string (⟨#[]⟩ : ByteArray)) := (blk_cell BKg122.out 3).trans rfl
          have hz142 : w123.cell? ⟨g122, 4, none⟩ = some (.slice none 0 0) := (blk_cell BKg122.out 4).trans rfl
          have hf143 := blk_frozen BKg122.out 0
          have hf144 := blk_frozen BKg122.out 1
          have hf145 := blk_frozen BKg122.out 2
          have hf146 := blk_frozen BKg122.out 3
          have hf147 := blk_frozen BKg122.out 4
          go_wp2_with (((with_reducible refine gate_store (t := 28) (p := 9) rfl ?_); (try (refine gate_guard (by rfl) ?_; dsimp only)); refine MW.ev_store #[.int .i64 t99, .bool t100, .int .i64 t101, .string t102, .slice A107 t103.length cp107] rfl rfl rfl rfl (cs := #[.int .i64 0, .bool false, .int .i64 0, .string (⟨#[]⟩ : ByteArray), .slice none 0 0]) (ty := 28) BKg122.out [.int .i64 t99, .bool t100, .int .i64 t101, .string t102, .slice A107 t103.length cp107] rfl (by kernel_rfl) (by simp) (by simp [Value.oneCell']) rfl ?_; intro w148 hbk hg); replace hbk := Aside0.mk hbk; refine stop_ ?_)
          refine Stop.go ?_
          replace hbk := hbk.out
          replace HF1 := Aside0.mk (Kd.F_grown (ok := (fun k_ => (P_ k_ ∨ w.heap.size ≤ k_) ∧ k_ ≠ g1 ∧ k_ ≠ g68 ∧ k_ ≠ g122)) HF1.out hg (fun k_ hk_ he_ => hk_.2.2.2 (Option.some.inj he_)))
          replace HF63 := Aside0.mk (Kd.F_grown (ok := (fun k_ => (P_ k_ ∨ w.heap.size ≤ k_) ∧ k_ ≠ g1 ∧ k_ ≠ g68 ∧ k_ ≠ g122)) HF63.out hg (fun k_ hk_ he_ => hk_.2.2.2 (Option.some.inj he_)))
          replace HF107 := Aside0.mk (Kd.F_grown (ok := (fun k_ => (P_ k_ ∨ w.heap.size ≤ k_) ∧ k_ ≠ g1 ∧ k_ ≠ g68 ∧ k_ ≠ g122)) HF107.out hg (fun k_ hk_ he_ => hk_.2.2.2 (Option.some.inj he_)))
          replace BKg1 := Aside0.mk (blk_grown (o := .cells #[.int .i64 a0_0, .int .i64 a0_1] 23 (0, 0)) BKg1.out hg (fun he_ => NEg1_g122.out (Option.some.inj he_)))
          replace BKg68 := Aside0.mk (blk_grown (o := .cells #[.int .i64 t55, .bool t56, .int .i64 t57, .string t58, .slice A63 t59.length cp63] 28 (0, 0)) BKg68.out hg (fun he_ => NEg68_g122.out (Option.some.inj he_)))
          replace HB := Aside0.mk (Below.grown HB.out hg (below_size HB.out) (fun k_ hk_ => by injection hk_ with hk_; rw [← hk_]; exact GEg122.out))
          replace BKg122 := Aside0.mk hbk
          clear hg hbk
          clear hz124 hz125 hf126 hf127 hz128 hz129 hz130 hz131 hz132 hf133 hf134 hf135 hf136 hf137 hz138 hz139 hz140 hz141 hz142 hf143 hf144 hf145 hf146 hf147
          have hz149 : w148.cell? ⟨g1, 0, none⟩ = some (.int .i64 a0_0) := (blk_cell BKg1.out 0).trans rfl
          have hz150 : w148.cell? ⟨g1, 1, none⟩ = some (.int .i64 a0_1) := (blk_cell BKg1.out 1).trans rfl
          have hf151 := blk_frozen BKg1.out 0
          have hf152 := blk_frozen BKg1.out 1
          have hz153 : w148.cell? ⟨g68, 0, none⟩ = some (.int .i64 t55) := (blk_cell BKg68.out 0).trans rfl
          have hz154 : w148.cell? ⟨g68, 1, none⟩ = some (.bool t56) := (blk_cell BKg68.out 1).trans rfl
          have hz155 : w148.cell? ⟨g68, 2, none⟩ = some (.int .i64 t57) := (blk_cell BKg68.out 2).trans rfl
          have hz156 : w148.cell? ⟨g68, 3, none⟩ = some (.string t58) := (blk_cell BKg68.out 3).trans rfl
          have hz157 : w148.cell? ⟨g68, 4, none⟩ = some (.slice A63 t59.length cp63) := (blk_cell BKg68.out 4).trans rfl
          have hf158 := blk_frozen BKg68.out 0
          have hf159 := blk_frozen BKg68.out 1
          have hf160 := blk_frozen BKg68.out 2
          have hf161 := blk_frozen BKg68.out 3
          have hf162 := blk_frozen BKg68.out 4
          have hz163 : w148.cell? ⟨g122, 0, none⟩ = some (.int .i64 t99) := (blk_cell BKg122.out 0).trans rfl
          have hz164 : w148.cell? ⟨g122, 1, none⟩ = some (.bool t100) := (blk_cell BKg122.out 1).trans rfl
          have hz165 : w148.cell? ⟨g122, 2, none⟩ = some (.int .i64 t101) := (blk_cell BKg122.out 2).trans rfl
          have hz166 : w148.cell? ⟨g122, 3, none⟩ = some (.string t102) := (blk_cell BKg122.out 3).trans rfl
          have hz167 : w148.cell? ⟨g122, 4, none⟩ = some (.slice A107 t103.length cp107) := (blk_cell BKg122.out 4).trans rfl
          have hf168 := blk_frozen BKg122.out 0
          have hf169 := blk_frozen BKg122.out 1
          have hf170 := blk_frozen BKg122.out 2
          have hf171 := blk_frozen BKg122.out 3
          have hf172 := blk_frozen BKg122.out 4
          have H := HH.out
          replace H := Option.bind_eq_some_iff.mp H
          obtain ⟨t173, at_, H⟩ := H
          have At174 := Aside0.mk at_
          clear at_
          replace HH := Aside0.mk (show (if t173 = true then (if t60 = t104 then ((prims_Is.f t55 t56 t57 t58 t59 a0_0 a0_1 true).bind fun t204 => (if (t204 == (t104 == 0)) = true then ((toponymlaw16_awake.f k9 ).bind fun t235 => (some t235)) else (some false))) else (some false)) else (some false)) = some r from H)
          clear H
          go_wp2_with (((with_reducible refine gate_callee (f := 12) rfl ?_); (try (refine gate_guard (by rfl) ?_; dsimp only)); refine goesL_ (some 49) rfl rfl Try.func12 (by kernel_rfl) rfl #[.agg #[.int .i64 t55, .bool t56, .int .i64 t57, .string t58, .slice A63 t59.length cp63], .agg #[.int .i64 t99, .bool t100, .int .i64 t101, .string t102, .slice A107 t103.length cp107]] rfl (by (try simp only [List.map_toArray, List.map_cons, List.map_nil]); first | done | rfl | (simp only [List.length_drop, List.length_take]; rfl)) ?_; (with_reducible refine (toponymref15_Same.calls k9 (fun k_ => (P_ k_ ∨ w.heap.size ≤ k_) ∧ k_ ≠ g1 ∧ k_ ≠ g68 ∧ k_ ≠ g122) t55 t56 t57 t58 _ _ t59 t99 t100 t101 t102 _ _ t103 t173 _ (Kd.F_mono (ok := (fun k_ => (P_ k_ ∨ w.heap.size ≤ k_) ∧ k_ ≠ g1 ∧ k_ ≠ g68 ∧ k_ ≠ g122)) HF63.out (fun k_ hk_ => ⟨hk_.1, hk_.2.1, hk_.2.2.1, hk_.2.2.2⟩)) HL63.out (Kd.F_mono (ok := (fun k_ => (P_ k_ ∨ w.heap.size ≤ k_) ∧ k_ ≠ g1 ∧ k_ ≠ g68 ∧ k_ ≠ g122)) HF107.out (fun k_ hk_ => ⟨hk_.1, hk_.2.1, hk_.2.2.1, hk_.2.2.2⟩)) HL107.out At174.out).mono ?_); rintro e w175 ⟨rfl, hb⟩; refine ⟨_, rfl, ?_⟩); refine stop_ ?_)
          refine Stop.go ?_
          replace HF1 := Aside0.mk (Kd.F_below HF1.out hb)
          replace HF63 := Aside0.mk (Kd.F_below HF63.out hb)
          replace HF107 := Aside0.mk (Kd.F_below HF107.out hb)
          replace BKg1 := Aside0.mk (blk_below (o := .cells #[.int .i64 a0_0, .int .i64 a0_1] 23 (0, 0)) BKg1.out hb)
          replace BKg68 := Aside0.mk (blk_below (o := .cells #[.int .i64 t55, .bool t56, .int .i64 t57, .string t58, .slice A63 t59.length cp63] 28 (0, 0)) BKg68.out hb)
          replace BKg122 := Aside0.mk (blk_below (o := .cells #[.int .i64 t99, .bool t100, .int .i64 t101, .string t102, .slice A107 t103.length cp107] 28 (0, 0)) BKg122.out hb)
          replace HB := Aside0.mk (below_step HB.out hb)
          clear hb
          clear hz149 hz150 hf151 hf152 hz153 hz154 hz155 hz156 hz157 hf158 hf159 hf160 hf161 hf162 hz163 hz164 hz165 hz166 hz167 hf168 hf169 hf170 hf171 hf172
          have hz176 : w175.cell? ⟨g1, 0, none⟩ = some (.int .i64 a0_0) := (blk_cell BKg1.out 0).trans rfl
          have hz177 : w175.cell? ⟨g1, 1, none⟩ = some (.int .i64 a0_1) := (blk_cell BKg1.out 1).trans rfl
          have hf178 := blk_frozen BKg1.out 0
          have hf179 := blk_frozen BKg1.out 1
          have hz180 : w175.cell? ⟨g68, 0, none⟩ = some (.int .i64 t55) := (blk_cell BKg68.out 0).trans rfl
          have hz181 : w175.cell? ⟨g68, 1, none⟩ = some (.bool t56) := (blk_cell BKg68.out 1).trans rfl
          have hz182 : w175.cell? ⟨g68, 2, none⟩ = some (.int .i64 t57) := (blk_cell BKg68.out 2).trans rfl
          have hz183 : w175.cell? ⟨g68, 3, none⟩ = some (.string t58) := (blk_cell BKg68.out 3).trans rfl
          have hz184 : w175.cell? ⟨g68, 4, none⟩ = some (.slice A63 t59.length cp63) := (blk_cell BKg68.out 4).trans rfl
          have hf185 := blk_frozen BKg68.out 0
          have hf186 := blk_frozen BKg68.out 1
          have hf187 := blk_frozen BKg68.out 2
          have hf188 := blk_frozen BKg68.out 3
          have hf189 := blk_frozen BKg68.out 4
          have hz190 : w175.cell? ⟨g122, 0, none⟩ = some (.int .i64 t99) := (blk_cell BKg122.out 0).trans rfl
          have hz191 : w175.cell? ⟨g122, 1, none⟩ = some (.bool t100) := (blk_cell BKg122.out 1).trans rfl
          have hz192 : w175.cell? ⟨g122, 2, none⟩ = some (.int .i64 t101) := (blk_cell BKg122.out 2).trans rfl
          have hz193 : w175.cell? ⟨g122, 3, none⟩ = some (.string t102) := (blk_cell BKg122.out 3).trans rfl
          have hz194 : w175.cell? ⟨g122, 4, none⟩ = some (.slice A107 t103.length cp107) := (blk_cell BKg122.out 4).trans rfl
          have hf195 := blk_frozen BKg122.out 0
          have hf196 := blk_frozen BKg122.out 1
          have hf197 := blk_frozen BKg122.out 2
          have hf198 := blk_frozen BKg122.out 3
          have hf199 := blk_frozen BKg122.out 4
          by_cases c200 : t173 = true
          · have H := HH.out
            rw [if_pos c200] at H
            replace HH := Aside0.mk H
            clear H
            subst c200
            by_cases c201 : t60 = t104
            · have H := HH.out
              rw [if_pos c201] at H
              replace HH := Aside0.mk H
              clear H
              have hk202 : (t60 == t104) = true := beq_iff_eq.mpr c201
              have hk203 : (t60 != t104) = false := bne_eq_false_iff_eq.mpr c201
              clear c201
              have H := HH.out
              replace H := Option.bind_eq_some_iff.mp H
              obtain ⟨t204, at_, H⟩ := H
              have At205 := Aside0.mk at_
              clear at_
              replace HH := Aside0.mk (show (if (t204 == (t104 == 0)) = true then ((toponymlaw16_awake.f k9 ).bind fun t235 => (some t235)) else (some false)) = some r from H)
              clear H
              go_wp2_with (((with_reducible refine gate_callee (f := 13) rfl ?_); (try (refine gate_guard (by rfl) ?_; dsimp only)); refine goesL_ (some 61) rfl rfl Try.func13 (by kernel_rfl) rfl #[.agg #[.int .i64 t55, .bool t56, .int .i64 t57, .string t58, .slice A63 t59.length cp63], .int .i64 a0_0, .int .i64 a0_1, .bool true] rfl (by (try simp only [List.map_toArray, List.map_cons, List.map_nil]); first | done | rfl | (simp only [List.length_drop, List.length_take]; rfl)) ?_; (with_reducible refine (prims_Is.calls (fun k_ => (P_ k_ ∨ w.heap.size ≤ k_) ∧ k_ ≠ g1 ∧ k_ ≠ g68 ∧ k_ ≠ g122) t55 t56 t57 t58 _ _ t59 a0_0 a0_1 true t204 _ (Kd.F_mono (ok := (fun k_ => (P_ k_ ∨ w.heap.size ≤ k_) ∧ k_ ≠ g1 ∧ k_ ≠ g68 ∧ k_ ≠ g122)) HF63.out (fun k_ hk_ => ⟨hk_.1, hk_.2.1, hk_.2.2.1, hk_.2.2.2⟩)) HL63.out At205.out).mono ?_); rintro e w206 ⟨rfl, hb⟩; refine ⟨_, rfl, ?_⟩); refine stop_ ?_)
              refine Stop.go ?_
              replace HF1 := Aside0.mk (Kd.F_below HF1.out hb)
              replace HF63 := Aside0.mk (Kd.F_below HF63.out hb)
              replace HF107 := Aside0.mk (Kd.F_below HF107.out hb)
              replace BKg1 := Aside0.mk (blk_below (o := .cells #[.int .i64 a0_0, .int .i64 a0_1] 23 (0, 0)) BKg1.out hb)
              replace BKg68 := Aside0.mk (blk_below (o := .cells #[.int .i64 t55, .bool t56, .int .i64 t57, .string t58, .slice A63 t59.length cp63] 28 (0, 0)) BKg68.out hb)
              replace BKg122 := Aside0.mk (blk_below (o := .cells #[.int .i64 t99, .bool t100, .int .i64 t101, .string t102, .slice A107 t103.length cp107] 28 (0, 0)) BKg122.out hb)
              replace HB := Aside0.mk (below_step HB.out hb)
              clear hb
              clear hz176 hz177 hf178 hf179 hz180 hz181 hz182 hz183 hz184 hf185 hf186 hf187 hf188 hf189 hz190 hz191 hz192 hz193 hz194 hf195 hf196 hf197 hf198 hf199
              have hz207 : w206.cell? ⟨g1, 0, none⟩ = some (.int .i64 a0_0) := (blk_cell BKg1.out 0).trans rfl
              have hz208 : w206.cell? ⟨g1, 1, none⟩ = some (.int .i64 a0_1) := (blk_cell BKg1.out 1).trans rfl
              have hf209 := blk_frozen BKg1.out 0
              have hf210 := blk_frozen BKg1.out 1
              have hz211 : w206.cell? ⟨g68, 0, none⟩ = some (.int .i64 t55) := (blk_cell BKg68.out 0).trans rfl
              have hz212 : w206.cell? ⟨g68, 1, none⟩ = some (.bool t56) := (blk_cell BKg68.out 1).trans rfl
              have hz213 : w206.cell? ⟨g68, 2, none⟩ = some (.int .i64 t57) := (blk_cell BKg68.out 2).trans rfl
              have hz214 : w206.cell? ⟨g68, 3, none⟩ = some (.string t58) := (blk_cell BKg68.out 3).trans rfl
              have hz215 : w206.cell? ⟨g68, 4, none⟩ = some (.slice A63 t59.length cp63) := (blk_cell BKg68.out 4).trans rfl
              have hf216 := blk_frozen BKg68.out 0
              have hf217 := blk_frozen BKg68.out 1
              have hf218 := blk_frozen BKg68.out 2
              have hf219 := blk_frozen BKg68.out 3
              have hf220 := blk_frozen BKg68.out 4
              have hz221 : w206.cell? ⟨g122, 0, none⟩ = some (.int .i64 t99) := (blk_cell BKg122.out 0).trans rfl
              have hz222 : w206.cell? ⟨g122, 1, none⟩ = some (.bool t100) := (blk_cell BKg122.out 1).trans rfl
              have hz223 : w206.cell? ⟨g122, 2, none⟩ = some (.int .i64 t101) := (blk_cell BKg122.out 2).trans rfl
              have hz224 : w206.cell? ⟨g122, 3, none⟩ = some (.string t102) := (blk_cell BKg122.out 3).trans rfl
              have hz225 : w206.cell? ⟨g122, 4, none⟩ = some (.slice A107 t103.length cp107) := (blk_cell BKg122.out 4).trans rfl
              have hf226 := blk_frozen BKg122.out 0
              have hf227 := blk_frozen BKg122.out 1
              have hf228 := blk_frozen BKg122.out 2
              have hf229 := blk_frozen BKg122.out 3
              have hf230 := blk_frozen BKg122.out 4
              by_cases c231 : (t204 == (t104 == 0)) = true
              · have H := HH.out
                rw [if_pos c231] at H
                replace HH := Aside0.mk H
                clear H
                have hk232 : (t204 == (t104 == 0)) = true := c231
                try have hk233 : decide (t204 = (t104 == 0)) = true := by simpa using c231
                try have hk234 : (t204 == (t104 == 0)) = true := by simpa using c231
                clear c231
                have H := HH.out
                replace H := Option.bind_eq_some_iff.mp H
                obtain ⟨t235, at_, H⟩ := H
                have At236 := Aside0.mk at_
                clear at_
                replace HH := Aside0.mk (show (some t235) = some r from H)
                clear H
                go_wp2_with (((with_reducible refine gate_callee (f := 8) rfl ?_); (try (refine gate_guard (by rfl) ?_; dsimp only)); refine goesL_ (some 67) rfl rfl Try.func8 (by kernel_rfl) rfl #[] rfl (by (try simp only [List.map_toArray, List.map_cons, List.map_nil]); first | done | rfl | (simp only [List.length_drop, List.length_take]; rfl)) ?_; (with_reducible refine (toponymlaw16_awake.calls k9  t235 _  At236.out).mono ?_); rintro e w237 ⟨rfl, hb⟩; refine ⟨_, rfl, ?_⟩); refine stop_ ?_)
                refine Stop.go ?_
                replace HF1 := Aside0.mk (Kd.F_below HF1.out hb)
                replace HF63 := Aside0.mk (Kd.F_below HF63.out hb)
                replace HF107 := Aside0.mk (Kd.F_below HF107.out hb)
                replace BKg1 := Aside0.mk (blk_below (o := .cells #[.int .i64 a0_0, .int .i64 a0_1] 23 (0, 0)) BKg1.out hb)
                replace BKg68 := Aside0.mk (blk_below (o := .cells #[.int .i64 t55, .bool t56, .int .i64 t57, .string t58, .slice A63 t59.length cp63] 28 (0, 0)) BKg68.out hb)
                replace BKg122 := Aside0.mk (blk_below (o := .cells #[.int .i64 t99, .bool t100, .int .i64 t101, .string t102, .slice A107 t103.length cp107] 28 (0, 0)) BKg122.out hb)
                replace HB := Aside0.mk (below_step HB.out hb)
                clear hb
                clear hz207 hz208 hf209 hf210 hz211 hz212 hz213 hz214 hz215 hf216 hf217 hf218 hf219 hf220 hz221 hz222 hz223 hz224 hz225 hf226 hf227 hf228 hf229 hf230
                have hz238 : w237.cell? ⟨g1, 0, none⟩ = some (.int .i64 a0_0) := (blk_cell BKg1.out 0).trans rfl
                have hz239 : w237.cell? ⟨g1, 1, none⟩ = some (.int .i64 a0_1) := (blk_cell BKg1.out 1).trans rfl
                have hf240 := blk_frozen BKg1.out 0
                have hf241 := blk_frozen BKg1.out 1
                have hz242 : w237.cell? ⟨g68, 0, none⟩ = some (.int .i64 t55) := (blk_cell BKg68.out 0).trans rfl
                have hz243 : w237.cell? ⟨g68, 1, none⟩ = some (.bool t56) := (blk_cell BKg68.out 1).trans rfl
                have hz244 : w237.cell? ⟨g68, 2, none⟩ = some (.int .i64 t57) := (blk_cell BKg68.out 2).trans rfl
                have hz245 : w237.cell? ⟨g68, 3, none⟩ = some (.string t58) := (blk_cell BKg68.out 3).trans rfl
                have hz246 : w237.cell? ⟨g68, 4, none⟩ = some (.slice A63 t59.length cp63) := (blk_cell BKg68.out 4).trans rfl
                have hf247 := blk_frozen BKg68.out 0
                have hf248 := blk_frozen BKg68.out 1
                have hf249 := blk_frozen BKg68.out 2
                have hf250 := blk_frozen BKg68.out 3
                have hf251 := blk_frozen BKg68.out 4
                have hz252 : w237.cell? ⟨g122, 0, none⟩ = some (.int .i64 t99) := (blk_cell BKg122.out 0).trans rfl
                have hz253 : w237.cell? ⟨g122, 1, none⟩ = some (.bool t100) := (blk_cell BKg122.out 1).trans rfl
                have hz254 : w237.cell? ⟨g122, 2, none⟩ = some (.int .i64 t101) := (blk_cell BKg122.out 2).trans rfl
                have hz255 : w237.cell? ⟨g122, 3, none⟩ = some (.string t102) := (blk_cell BKg122.out 3).trans rfl
                have hz256 : w237.cell? ⟨g122, 4, none⟩ = some (.slice A107 t103.length cp107) := (blk_cell BKg122.out 4).trans rfl
                have hf257 := blk_frozen BKg122.out 0
                have hf258 := blk_frozen BKg122.out 1
                have hf259 := blk_frozen BKg122.out 2
                have hf260 := blk_frozen BKg122.out 3
                have hf261 := blk_frozen BKg122.out 4
                have H := HH.out
                obtain rfl := Option.some.inj H
                clear HH
                go_wp2
                go_ret
                exact ⟨by first | rfl | (simp; done) | (simp [*]; done), HB.out⟩
              · have H := HH.out
                rw [if_neg c231] at H
                replace HH := Aside0.mk H
                clear H
                have hk262 : (t204 == (t104 == 0)) = false := by simpa using c231
                try have hk263 : decide (t204 = (t104 == 0)) = false := by simpa using c231
                try have hk264 : (t204 == (t104 == 0)) = false := by simpa using c231
                try have hk265 : ¬ (t204 = (t104 == 0)) := by simpa using c231
                clear c231
                have H := HH.out
                obtain rfl := Option.some.inj H
                clear HH
                go_wp2
                go_ret
                exact ⟨by first | rfl | (simp; done) | (simp [*]; done), HB.out⟩
            · have H := HH.out
              rw [if_neg c201] at H
              replace HH := Aside0.mk H
              clear H
              have hk266 : (t60 == t104) = false := beq_eq_false_iff_ne.mpr c201
              have hk267 : (t60 != t104) = true := bne_iff_ne.mpr c201
              clear c201
              have H := HH.out
              obtain rfl := Option.some.inj H
              clear HH
              go_wp2
              go_ret
              exact ⟨by first | rfl | (simp; done) | (simp [*]; done), HB.out⟩
          · have H := HH.out
            rw [if_neg c200] at H
            replace HH := Aside0.mk H
            clear H
            replace c200 := Bool.eq_false_iff.mpr c200
            subst c200
            have H := HH.out
            obtain rfl := Option.some.inj H
            clear HH
            go_wp2
            go_ret
            exact ⟨by first | rfl | (simp; done) | (simp [*]; done), HB.out⟩

end Go.Proofs.Ytliackbiljhioaa.GA
