-- written by wip/gen.py, a program of this session
import Derived.Test.YtliackbiljhioaaGA0
namespace Go.Proofs.Ytliackbiljhioaa.GA
open Go.RowKit Go.Proofs.Ytliackbiljhioaa Go.Proofs.Ytliackbiljhioaa.MW Go.Proofs.YtliackbiljhioaaW.PrintWords Go.Proofs.YtliackbiljhioaaW.PrintLast Go.Proofs.YtliackbiljhioaaW.PrintMore
attribute [local go_sem] max2_int min2_int max_two min_two
set_option linter.unusedVariables false
set_option linter.unusedSimpArgs false

/-! ### toponymref16_Texts: function 25 -/
def toponymref16_Texts.l0 : Nat → (List ByteArray) → Int → Bool → (List (S28)) → Option (List ByteArray × Int)
  | 0, _, _, _, _ => none
  | k + 1, x13, x16, a0_1, l0_4 => if x16 < (l0_4.length : Int) then (if 0 ≤ x16 then (if ((rd_T28 l0_4 x16).f0) = 0 then (if ((rd_T28 l0_4 x16).f2) = 4 then (if (rd_T28 l0_4 x16).f1 = true then (some (([] : List ByteArray), 160)) else (if x13.length < 8796093022208 then ((some (x13 ++ [(rd_T28 l0_4 x16).f3] : List ByteArray)).bind fun y88 => ((toponymref16_Texts.l0 k y88 (wrap64 (x16 + 1)) a0_1 l0_4))) else (none))) else (some (([] : List ByteArray), 160))) else (some (([] : List ByteArray), 160))) else (none)) else (if a0_1 = true then (some (x13, 0)) else (some (([] : List ByteArray), 160)))
def toponymref16_Texts.f (k : Nat) (a0_0 : Int) (a0_1 : Bool) (a0_2 : Int) (a0_3 : ByteArray) (l0_4 : List (S28)) : Option (List ByteArray × Int) := (toponymref16_Texts.l0 k ([] : List ByteArray) 0 a0_1 l0_4)
theorem toponymref16_Texts.mono_l : ∀ k, (∀ y0 y1 y2 y3, LeO (toponymref16_Texts.l0 k y0 y1 y2 y3) (toponymref16_Texts.l0 (k + 1) y0 y1 y2 y3))
  | 0 => fun _ _ _ _ r h => by simp [toponymref16_Texts.l0] at h
  | k + 1 => by
    have ih0 := toponymref16_Texts.mono_l k
    · intro y0 y1 y2 y3
      unfold toponymref16_Texts.l0
      repeat' first
      | (with_reducible exact ih0 _ _ _ _)
      | (with_reducible exact LeO.refl _)
      | (with_reducible exact LeO.none _)
      | (with_reducible refine LeO.ite ?_ ?_)
      | (with_reducible refine LeO.bind ?_ (fun _ => ?_))
      | exact ih0 _ _ _ _
      | exact LeO.none _
      | refine LeO.ite ?_ ?_
      | refine LeO.bind ?_ (fun _ => ?_)
theorem toponymref16_Texts.mono : ∀ a0_ a1_ a2_ a3_ a4_ k, LeO (toponymref16_Texts.f k a0_ a1_ a2_ a3_ a4_) (toponymref16_Texts.f (k + 1) a0_ a1_ a2_ a3_ a4_) := by
  intro a0_ a1_ a2_ a3_ a4_ k
  have ih0 := toponymref16_Texts.mono_l k
  unfold toponymref16_Texts.f
  repeat' first
      | (with_reducible exact ih0 _ _ _ _)
      | (with_reducible exact LeO.refl _)
      | (with_reducible exact LeO.none _)
      | (with_reducible refine LeO.ite ?_ ?_)
      | (with_reducible refine LeO.bind ?_ (fun _ => ?_))
      | exact ih0 _ _ _ _
      | exact LeO.none _
      | refine LeO.ite ?_ ?_
      | refine LeO.bind ?_ (fun _ => ?_)
set_option maxHeartbeats 8000000 in
set_option maxRecDepth 100000 in
theorem toponymref16_Texts.calls (k : Nat) (P_ : Nat → Prop) (a0_0 : Int) (a0_1 : Bool) (a0_2 : Int) (a0_3 : ByteArray) (A0_4 : Option Addr) (c0_4 : Nat) (l0_4 : List (S28)) (r1 : List ByteArray) (r2 : Int) (w : World) (hs0_4 : Kd.F k28 w P_ A0_4 l0_4.length l0_4) (hc0_4 : l0_4.length ≤ c0_4) (h : toponymref16_Texts.f k a0_0 a0_1 a0_2 a0_3 l0_4 = some (r1, r2)) :
    Calls Try.prog 25 #[.agg #[.int .i64 a0_0, .bool a0_1, .int .i64 a0_2, .string a0_3, .slice A0_4 l0_4.length c0_4]] w fun e w' => ∃ v0_ : Value, e = .returned (.tuple #[v0_, .int .i64 r2]) ∧ Kd.N Kd.string 9 w' w.heap.size (fun k_ => P_ k_ ∨ w.heap.size ≤ k_) v0_ r1 ∧ Below w.heap.size w w' := by
  have HH := Aside0.mk (show ((toponymref16_Texts.l0 k ([] : List ByteArray) 0 a0_1 l0_4)) = some (r1, r2) from h)
  clear h
  have HF0_4 := Aside0.mk (Kd.F_mono hs0_4 (fun k_ hk_ => (.inl hk_ : P_ k_ ∨ w.heap.size ≤ k_)))
  have HL0_4 := Aside0.mk hc0_4
  clear hs0_4 hc0_4
  have HB := Aside0.mk (Below.refl w.heap.size w)
  have hu28 := Try.underlying28
  go_enter Try.func25, Try.ntmps25
  go_wp2_with (((with_reducible refine gate_dst (N := 1) rfl ?_); (try (refine gate_guard (by rfl) ?_; dsimp only)); refine box_event ?hg (N := 1) ?hd (cs := #[.int .i64 a0_0, .bool a0_1, .int .i64 a0_2, .string a0_3, .slice A0_4 l0_4.length c0_4]) (t := 28) ?hr ?_; (case hd => rfl); (case hg => rfl); (case hr => first | (go_simp; done) | (go_simp; rfl)); intro g1 hg w2 hbox hb); replace hg := Aside0.mk hg; replace hbox := Aside0.mk hbox; refine stop_ ?_)
  refine Stop.go ?_
  replace hg := hg.out
  replace hbox := hbox.out
  have GEg1 := Aside0.mk (by rw [hg]; exact (below_size (by repeat (first | (with_reducible first | exact HB.out | apply below_alloc | apply pw_below_drewN | apply below_drew1) | exact HB.out))) : w.heap.size ≤ g1)
  replace HF0_4 := Aside0.mk (Kd.F_elderB (by (with_reducible repeat (first | apply Kd.F_alloc | apply Kd.F_drewN | apply Kd.F_drew)); exact HF0_4.out) g1 (Nat.le_of_eq hg.symm))
  replace HF0_4 := Aside0.mk (Kd.F_mono HF0_4.out (fun k_ hk_ => ⟨hk_.1, hk_.2⟩) : Kd.F k28 _ (fun k_ => (P_ k_ ∨ w.heap.size ≤ k_) ∧ k_ ≠ g1) _ _ _)
  replace HF0_4 := Aside0.mk (Kd.F_below (by (with_reducible repeat (first | apply Kd.F_alloc | apply Kd.F_drewN | apply Kd.F_drew)); exact HF0_4.out) hb)
  replace HB := Aside0.mk (below_step (by repeat (first | (with_reducible first | exact HB.out | apply below_alloc | apply pw_below_drewN | apply below_drew1) | exact HB.out)) hb)
  have BKg1 := Aside0.mk hbox
  clear hg hbox hb
  have hz3 : w2.cell? ⟨g1, 0, none⟩ = some (.int .i64 a0_0) := (blk_cell BKg1.out 0).trans rfl
  have hz4 : w2.cell? ⟨g1, 1, none⟩ = some (.bool a0_1) := (blk_cell BKg1.out 1).trans rfl
  have hz5 : w2.cell? ⟨g1, 2, none⟩ = some (.int .i64 a0_2) := (blk_cell BKg1.out 2).trans rfl
  have hz6 : w2.cell? ⟨g1, 3, none⟩ = some (.string a0_3) := (blk_cell BKg1.out 3).trans rfl
  have hz7 : w2.cell? ⟨g1, 4, none⟩ = some (.slice A0_4 l0_4.length c0_4) := (blk_cell BKg1.out 4).trans rfl
  have hf8 := blk_frozen BKg1.out 0
  have hf9 := blk_frozen BKg1.out 1
  have hf10 := blk_frozen BKg1.out 2
  have hf11 := blk_frozen BKg1.out 3
  have hf12 := blk_frozen BKg1.out 4
  go_wp2
  go_loopg [4, 5] k (fun kq u4 u5 w' => ∃ (x13 : List ByteArray) (x16 : Int), u5 = .int .i64 x16 ∧ Aside0 ((toponymref16_Texts.l0 kq x13 x16 a0_1 l0_4) = some (r1, r2)) ∧ Aside0 (kq ≤ k) ∧ Aside0 (Kd.F k28 w' (fun k_ => (P_ k_ ∨ w.heap.size ≤ k_) ∧ some k_ ≠ (u4 : Value).ownBlock ∧ k_ ≠ g1) A0_4 l0_4.length l0_4) ∧ Aside0 (Kd.N Kd.string 9 w' w.heap.size (fun k_ => (P_ k_ ∨ w.heap.size ≤ k_) ∧ k_ ≠ g1) u4 x13) ∧ Aside0 (w'.heap[g1]? = some (.cells #[.int .i64 a0_0, .bool a0_1, .int .i64 a0_2, .string a0_3, .slice A0_4 l0_4.length c0_4] 28 (0, 0))) ∧ Aside0 (Below w.heap.size w w'))
  case atStart => exact ⟨([] : List ByteArray), 0, (by first | rfl | (simp; done) | (simp [*]; done)), HH, ⟨Nat.le_refl _⟩, ⟨(Kd.F_mono (ok := (fun k_ => (P_ k_ ∨ w.heap.size ≤ k_) ∧ k_ ≠ g1)) (by (with_reducible repeat (first | apply Kd.F_alloc | apply Kd.F_drewN | apply Kd.F_drew)); exact HF0_4.out) (fun k_ hk_ => ⟨hk_.1, (by simp [Value.ownBlock]), hk_.2⟩))⟩, ⟨Kd.N_nil _ _ _ _ _⟩, ⟨(by (with_reducible repeat (first | refine blk_drewN ?_ _ | refine blk_drew ?_ | refine blk_alloc ?_ _)); exact BKg1.out)⟩, ⟨(by repeat (first | (with_reducible first | exact HB.out | apply below_alloc | apply pw_below_drewN | apply below_drew1) | exact HB.out))⟩⟩
  case round =>
    clear hz3 hz4 hz5 hz6 hz7 hf8 hf9 hf10 hf11 hf12
    clear HH
    clear HF0_4 BKg1 HB
    obtain ⟨x13, x16, rfl, HA, HK0, HF0_4, HN15, BKg1, HB⟩ := hrel
    obtain ⟨v14, rfl⟩ : ∃ z_ : Value, z_ = u4 := ⟨_, rfl⟩
    obtain ⟨w18, rfl⟩ : ∃ wo_ : World, wo_ = wr := ⟨_, rfl⟩
    cases gk with
    | zero => exact absurd HA.out (by simp [toponymref16_Texts.l0])
    | succ k17 =>
      have H := HA.out
      clear HA
      simp only [toponymref16_Texts.l0] at H
      have HH := Aside0.mk H
      clear H
      have hz19 : w18.cell? ⟨g1, 0, none⟩ = some (.int .i64 a0_0) := (blk_cell BKg1.out 0).trans rfl
      have hz20 : w18.cell? ⟨g1, 1, none⟩ = some (.bool a0_1) := (blk_cell BKg1.out 1).trans rfl
      have hz21 : w18.cell? ⟨g1, 2, none⟩ = some (.int .i64 a0_2) := (blk_cell BKg1.out 2).trans rfl
      have hz22 : w18.cell? ⟨g1, 3, none⟩ = some (.string a0_3) := (blk_cell BKg1.out 3).trans rfl
      have hz23 : w18.cell? ⟨g1, 4, none⟩ = some (.slice A0_4 l0_4.length c0_4) := (blk_cell BKg1.out 4).trans rfl
      have hf24 := blk_frozen BKg1.out 0
      have hf25 := blk_frozen BKg1.out 1
      have hf26 := blk_frozen BKg1.out 2
      have hf27 := blk_frozen BKg1.out 3
      have hf28 := blk_frozen BKg1.out 4
      by_cases c29 : x16 < (l0_4.length : Int)
      · have H := HH.out
        rw [if_pos c29] at H
        replace HH := Aside0.mk H
        clear H
        have hk30 : (x16 < (l0_4.length : Int)) = True := eq_true c29
        have hk31 : decide (x16 < (l0_4.length : Int)) = true := decide_eq_true c29
        clear c29
        by_cases c32 : 0 ≤ x16
        · have H := HH.out
          rw [if_pos c32] at H
          replace HH := Aside0.mk H
          clear H
          have hk33 : decide (0 ≤ x16) = true := decide_eq_true c32
          clear c32
          have p34 : 0 ≤ (x16 : Int) := of_decide_eq_true (by first | (with_reducible assumption) | assumption)
          have q34 : x16 < (l0_4.length : Int) := of_decide_eq_true (by first | (with_reducible assumption) | assumption)
          obtain ⟨ad34, A34_4, c34_4, e34, hx34_0, hx34_1, hx34_2, hx34_3, hx34_4, hl34_4, hi34_4⟩ := atF_T28 HF0_4.out x16 p34 q34
          cases e34
          have HF34_4 := Aside0.mk hi34_4
          have HL34_4 := Aside0.mk hl34_4
          clear hi34_4 hl34_4
          replace p34 := eq_true p34
          replace q34 := eq_true q34
          go_wp2_with (((with_reducible refine gate_dst (N := 6) rfl ?_); (try (refine gate_guard (by rfl) ?_; dsimp only)); refine box_event ?hg (N := 6) ?hd (cs := #[.int .i64 0, .bool false, .int .i64 0, .string (⟨#[]⟩ : ByteArray), .slice none 0 0]) (t := 28) ?hr ?_; (case hd => rfl); (case hg => rfl); (case hr => first | (go_simp; done) | (go_simp; rfl)); intro g35 hg w36 hbox hb); replace hg := Aside0.mk hg; replace hbox := Aside0.mk hbox; refine stop_ ?_)
          refine Stop.go ?_
          replace hg := hg.out
          replace hbox := hbox.out
          have GEg35 := Aside0.mk (by rw [hg]; exact (below_size (by repeat (first | (with_reducible first | exact HB.out | apply below_alloc | apply pw_below_drewN | apply below_drew1) | exact HB.out))) : w.heap.size ≤ g35)
          replace HF0_4 := Aside0.mk (Kd.F_elderB (by (with_reducible repeat (first | apply Kd.F_alloc | apply Kd.F_drewN | apply Kd.F_drew)); exact HF0_4.out) g35 (Nat.le_of_eq hg.symm))
          replace HF0_4 := Aside0.mk (Kd.F_mono HF0_4.out (fun k_ hk_ => ⟨hk_.1.1, hk_.1.2.1, hk_.1.2.2, hk_.2⟩) : Kd.F k28 _ (fun k_ => (P_ k_ ∨ w.heap.size ≤ k_) ∧ some k_ ≠ (v14 : Value).ownBlock ∧ k_ ≠ g1 ∧ k_ ≠ g35) _ _ _)
          replace HF34_4 := Aside0.mk (Kd.F_elderB (by (with_reducible repeat (first | apply Kd.F_alloc | apply Kd.F_drewN | apply Kd.F_drew)); exact HF34_4.out) g35 (Nat.le_of_eq hg.symm))
          replace HF34_4 := Aside0.mk (Kd.F_mono HF34_4.out (fun k_ hk_ => ⟨hk_.1.1, hk_.1.2.1, hk_.1.2.2, hk_.2⟩) : Kd.F k28 _ (fun k_ => (P_ k_ ∨ w.heap.size ≤ k_) ∧ some k_ ≠ (v14 : Value).ownBlock ∧ k_ ≠ g1 ∧ k_ ≠ g35) _ _ _)
          replace HN15 := Aside0.mk (Kd.N_elderB (by (with_reducible repeat (first | apply Kd.N_alloc | apply Kd.N_drewN | apply Kd.N_drew)); exact HN15.out) g35 (Nat.le_of_eq hg.symm))
          replace HN15 := Aside0.mk (Kd.N_mono HN15.out (fun k_ hk_ => ⟨hk_.1.1, hk_.1.2, hk_.2⟩) : Kd.N Kd.string _ _ _ (fun k_ => (P_ k_ ∨ w.heap.size ≤ k_) ∧ k_ ≠ g1 ∧ k_ ≠ g35) _ _)
          have NEg1_g35 := Aside0.mk (by rw [hg]; exact Nat.ne_of_lt (blk_lt (o := .cells #[.int .i64 a0_0, .bool a0_1, .int .i64 a0_2, .string a0_3, .slice (some ad34) l0_4.length c0_4] 28 (0, 0)) (by (with_reducible repeat (first | refine blk_drewN ?_ _ | refine blk_drew ?_ | refine blk_alloc ?_ _)); exact BKg1.out)) : g1 ≠ g35)
          have NEg35_g1 := Aside0.mk (Ne.symm NEg1_g35.out)
          replace HF0_4 := Aside0.mk (Kd.F_below (by (with_reducible repeat (first | apply Kd.F_alloc | apply Kd.F_drewN | apply Kd.F_drew)); exact HF0_4.out) hb)
          replace HF34_4 := Aside0.mk (Kd.F_below (by (with_reducible repeat (first | apply Kd.F_alloc | apply Kd.F_drewN | apply Kd.F_drew)); exact HF34_4.out) hb)
          replace HN15 := Aside0.mk (Kd.N_below (by (with_reducible repeat (first | apply Kd.N_alloc | apply Kd.N_drewN | apply Kd.N_drew)); exact HN15.out) hb)
          replace BKg1 := Aside0.mk (blk_below (o := .cells #[.int .i64 a0_0, .bool a0_1, .int .i64 a0_2, .string a0_3, .slice (some ad34) l0_4.length c0_4] 28 (0, 0)) (by (with_reducible repeat (first | refine blk_drewN ?_ _ | refine blk_drew ?_ | refine blk_alloc ?_ _)); exact BKg1.out) hb)
          replace HB := Aside0.mk (below_step (by repeat (first | (with_reducible first | exact HB.out | apply below_alloc | apply pw_below_drewN | apply below_drew1) | exact HB.out)) hb)
          have BKg35 := Aside0.mk hbox
          clear hg hbox hb
          clear hz19 hz20 hz21 hz22 hz23 hf24 hf25 hf26 hf27 hf28 hx34_0 hx34_1 hx34_2 hx34_3 hx34_4 p34 q34
          have hz37 : w36.cell? ⟨g1, 0, none⟩ = some (.int .i64 a0_0) := (blk_cell BKg1.out 0).trans rfl
          have hz38 : w36.cell? ⟨g1, 1, none⟩ = some (.bool a0_1) := (blk_cell BKg1.out 1).trans rfl
          have hz39 : w36.cell? ⟨g1, 2, none⟩ = some (.int .i64 a0_2) := (blk_cell BKg1.out 2).trans rfl
          have hz40 : w36.cell? ⟨g1, 3, none⟩ = some (.string a0_3) := (blk_cell BKg1.out 3).trans rfl
          have hz41 : w36.cell? ⟨g1, 4, none⟩ = some (.slice (some ad34) l0_4.length c0_4) := (blk_cell BKg1.out 4).trans rfl
          have hf42 := blk_frozen BKg1.out 0
          have hf43 := blk_frozen BKg1.out 1
          have hf44 := blk_frozen BKg1.out 2
          have hf45 := blk_frozen BKg1.out 3
          have hf46 := blk_frozen BKg1.out 4
          have hz47 : w36.cell? ⟨g35, 0, none⟩ = some (.int .i64 0) := (blk_cell BKg35.out 0).trans rfl
          have hz48 : w36.cell? ⟨g35, 1, none⟩ = some (.bool false) := (blk_cell BKg35.out 1).trans rfl
          have hz49 : w36.cell? ⟨g35, 2, none⟩ = some (.int .i64 0) := (blk_cell BKg35.out 2).trans rfl
          have hz50 : w36.cell? ⟨g35, 3, none⟩ = some (.string (⟨#[]⟩ : ByteArray)) := (blk_cell BKg35.out 3).trans rfl
          have hz51 : w36.cell? ⟨g35, 4, none⟩ = some (.slice none 0 0) := (blk_cell BKg35.out 4).trans rfl
          have hf52 := blk_frozen BKg35.out 0
          have hf53 := blk_frozen BKg35.out 1
          have hf54 := blk_frozen BKg35.out 2
          have hf55 := blk_frozen BKg35.out 3
          have hf56 := blk_frozen BKg35.out 4
          go_wp2_with (((with_reducible refine gate_store (t := 28) (p := 6) rfl ?_); (try (refine gate_guard (by rfl) ?_; dsimp only)); refine MW.ev_store #[.int .i64 ((rd_T28 l0_4 x16).f0), .bool ((rd_T28 l0_4 x16).f1), .int .i64 ((rd_T28 l0_4 x16).f2), .string ((rd_T28 l0_4 x16).f3), .slice A34_4 ((rd_T28 l0_4 x16).f4).length c34_4] rfl rfl rfl rfl (cs := #[.int .i64 0, .bool false, .int .i64 0, .string (⟨#[]⟩ : ByteArray), .slice none 0 0]) (ty := 28) (by (with_reducible repeat (first | refine blk_drewN ?_ _ | refine blk_drew ?_ | refine blk_alloc ?_ _)); exact BKg35.out) [.int .i64 ((rd_T28 l0_4 x16).f0), .bool ((rd_T28 l0_4 x16).f1), .int .i64 ((rd_T28 l0_4 x16).f2), .string ((rd_T28 l0_4 x16).f3), .slice A34_4 ((rd_T28 l0_4 x16).f4).length c34_4] rfl (by kernel_rfl) (by simp) (by simp [Value.oneCell']) rfl ?_; intro w57 hbk hg); replace hbk := Aside0.mk hbk; refine stop_ ?_)
          refine Stop.go ?_
          replace hbk := hbk.out
          replace HF0_4 := Aside0.mk (Kd.F_grown (ok := (fun k_ => (P_ k_ ∨ w.heap.size ≤ k_) ∧ some k_ ≠ (v14 : Value).ownBlock ∧ k_ ≠ g1 ∧ k_ ≠ g35)) (by (with_reducible repeat (first | apply Kd.F_alloc | apply Kd.F_drewN | apply Kd.F_drew)); exact HF0_4.out) hg (fun k_ hk_ he_ => hk_.2.2.2 (Option.some.inj he_)))
          replace HF34_4 := Aside0.mk (Kd.F_grown (ok := (fun k_ => (P_ k_ ∨ w.heap.size ≤ k_) ∧ some k_ ≠ (v14 : Value).ownBlock ∧ k_ ≠ g1 ∧ k_ ≠ g35)) (by (with_reducible repeat (first | apply Kd.F_alloc | apply Kd.F_drewN | apply Kd.F_drew)); exact HF34_4.out) hg (fun k_ hk_ he_ => hk_.2.2.2 (Option.some.inj he_)))
          replace HN15 := Aside0.mk (Kd.N_grown (ok := (fun k_ => (P_ k_ ∨ w.heap.size ≤ k_) ∧ k_ ≠ g1 ∧ k_ ≠ g35)) (by (with_reducible repeat (first | apply Kd.N_alloc | apply Kd.N_drewN | apply Kd.N_drew)); exact HN15.out) hg (fun k_ hk_ he_ => hk_.2.2 (Option.some.inj he_)))
          replace BKg1 := Aside0.mk (blk_grown (o := .cells #[.int .i64 a0_0, .bool a0_1, .int .i64 a0_2, .string a0_3, .slice (some ad34) l0_4.length c0_4] 28 (0, 0)) (by (with_reducible repeat (first | refine blk_drewN ?_ _ | refine blk_drew ?_ | refine blk_alloc ?_ _)); exact BKg1.out) hg (fun he_ => NEg1_g35.out (Option.some.inj he_)))
          replace HB := Aside0.mk (Below.grown (by repeat (first | (with_reducible first | exact HB.out | apply below_alloc | apply pw_below_drewN | apply below_drew1) | exact HB.out)) hg (below_size (by repeat (first | (with_reducible first | exact HB.out | apply below_alloc | apply pw_below_drewN | apply below_drew1) | exact HB.out))) (fun k_ hk_ => by injection hk_ with hk_; rw [← hk_]; exact GEg35.out))
          replace BKg35 := Aside0.mk hbk
          clear hg hbk
          clear hz37 hz38 hz39 hz40 hz41 hf42 hf43 hf44 hf45 hf46 hz47 hz48 hz49 hz50 hz51 hf52 hf53 hf54 hf55 hf56
          have hz58 : w57.cell? ⟨g1, 0, none⟩ = some (.int .i64 a0_0) := (blk_cell BKg1.out 0).trans rfl
          have hz59 : w57.cell? ⟨g1, 1, none⟩ = some (.bool a0_1) := (blk_cell BKg1.out 1).trans rfl
          have hz60 : w57.cell? ⟨g1, 2, none⟩ = some (.int .i64 a0_2) := (blk_cell BKg1.out 2).trans rfl
          have hz61 : w57.cell? ⟨g1, 3, none⟩ = some (.string a0_3) := (blk_cell BKg1.out 3).trans rfl
          have hz62 : w57.cell? ⟨g1, 4, none⟩ = some (.slice (some ad34) l0_4.length c0_4) := (blk_cell BKg1.out 4).trans rfl
          have hf63 := blk_frozen BKg1.out 0
          have hf64 := blk_frozen BKg1.out 1
          have hf65 := blk_frozen BKg1.out 2
          have hf66 := blk_frozen BKg1.out 3
          have hf67 := blk_frozen BKg1.out 4
          have hz68 : w57.cell? ⟨g35, 0, none⟩ = some (.int .i64 ((rd_T28 l0_4 x16).f0)) := (blk_cell BKg35.out 0).trans rfl
          have hz69 : w57.cell? ⟨g35, 1, none⟩ = some (.bool ((rd_T28 l0_4 x16).f1)) := (blk_cell BKg35.out 1).trans rfl
          have hz70 : w57.cell? ⟨g35, 2, none⟩ = some (.int .i64 ((rd_T28 l0_4 x16).f2)) := (blk_cell BKg35.out 2).trans rfl
          have hz71 : w57.cell? ⟨g35, 3, none⟩ = some (.string ((rd_T28 l0_4 x16).f3)) := (blk_cell BKg35.out 3).trans rfl
          have hz72 : w57.cell? ⟨g35, 4, none⟩ = some (.slice A34_4 ((rd_T28 l0_4 x16).f4).length c34_4) := (blk_cell BKg35.out 4).trans rfl
          have hf73 := blk_frozen BKg35.out 0
          have hf74 := blk_frozen BKg35.out 1
          have hf75 := blk_frozen BKg35.out 2
          have hf76 := blk_frozen BKg35.out 3
          have hf77 := blk_frozen BKg35.out 4
          by_cases c78 : ((rd_T28 l0_4 x16).f0) = 0
          · have H := HH.out
            rw [if_pos c78] at H
            replace HH := Aside0.mk H
            clear H
            have hk79 : (((rd_T28 l0_4 x16).f0) == 0) = true := beq_iff_eq.mpr c78
            have hk80 : (((rd_T28 l0_4 x16).f0) != 0) = false := bne_eq_false_iff_eq.mpr c78
            clear c78
            by_cases c81 : ((rd_T28 l0_4 x16).f2) = 4
            · have H := HH.out
              rw [if_pos c81] at H
              replace HH := Aside0.mk H
              clear H
              have hk82 : (((rd_T28 l0_4 x16).f2) == 4) = true := beq_iff_eq.mpr c81
              have hk83 : (((rd_T28 l0_4 x16).f2) != 4) = false := bne_eq_false_iff_eq.mpr c81
              clear c81
              by_cases c84 : (rd_T28 l0_4 x16).f1 = true
              · have H := HH.out
                rw [if_pos c84] at H
                replace HH := Aside0.mk H
                clear H
                have hk85 : (rd_T28 l0_4 x16).f1 = true := c84
                clear c84
                have H := HH.out
                simp only [Option.some.injEq, Prod.mk.injEq] at H
                obtain ⟨rfl, rfl⟩ := H
                clear HH
                go_wp2
                go_ret2
                exact ⟨_, by first | rfl | (simp; done) | (simp [*]; done), (Kd.N_nil _ _ _ _ _), (by repeat (first | (with_reducible first | exact HB.out | apply below_alloc | apply pw_below_drewN | apply below_drew1) | exact HB.out))⟩
              · have H := HH.out
                rw [if_neg c84] at H
                replace HH := Aside0.mk H
                clear H
                have hk86 : (rd_T28 l0_4 x16).f1 = false := by simpa using c84
                clear c84
                by_cases c87 : x13.length < 8796093022208
                · have H := HH.out
                  rw [if_pos c87] at H
                  replace HH := Aside0.mk H
                  clear H
                  have LMc87 := Aside0.mk c87
                  clear c87
                  obtain ⟨y88, hy88⟩ : ∃ y_ : List ByteArray, y_ = (x13 ++ [(rd_T28 l0_4 x16).f3]) := ⟨_, rfl⟩
                  have H : ((toponymref16_Texts.l0 k17 y88 (wrap64 (x16 + 1)) a0_1 l0_4)) = some (r1, r2) := by rw [hy88]; exact HH.out
                  replace HH := Aside0.mk H
                  clear H
                  have NYy88 := Aside0.mk hy88
                  clear hy88
                  go_wp2_with (((with_reducible refine gate_dst (N := 35) rfl ?_); (try (refine gate_guard (by rfl) ?_; dsimp only)); refine Kd.N_append Kd.string w.heap.size rfl _ _ 53 9 (.string ⟨#[]⟩) 16 rfl Try.underlying53 info9 rfl (by decide) (by decide) (v14) x13 ((rd_T28 l0_4 x16).f3) [.string ((rd_T28 l0_4 x16).f3)] (fun k_ => (P_ k_ ∨ w.heap.size ≤ k_) ∧ k_ ≠ g1 ∧ k_ ≠ g35) (fun k_ => (fun k_ => (P_ k_ ∨ w.heap.size ≤ k_) ∧ k_ ≠ g1 ∧ k_ ≠ g35) k_ ∧ some k_ ≠ (v14 : Value).ownBlock) rfl rfl (fun _ _ => rfl) (fun _ hk_ => hk_) (fun k_ h_ => ⟨.inr (Nat.le_trans (below_size (by repeat (first | (with_reducible first | exact HB.out | apply below_alloc | apply pw_below_drewN | apply below_drew1) | exact HB.out))) h_), Kd.freshB (o := .cells #[.int .i64 a0_0, .bool a0_1, .int .i64 a0_2, .string a0_3, .slice (some ad34) l0_4.length c0_4] 28 (0, 0)) (by (with_reducible repeat (first | refine blk_drewN ?_ _ | refine blk_drew ?_ | refine blk_alloc ?_ _)); exact BKg1.out) k_ h_, Kd.freshB (o := .cells #[.int .i64 ((rd_T28 l0_4 x16).f0), .bool ((rd_T28 l0_4 x16).f1), .int .i64 ((rd_T28 l0_4 x16).f2), .string ((rd_T28 l0_4 x16).f3), .slice A34_4 ((rd_T28 l0_4 x16).f4).length c34_4] 28 (0, 0)) (by (with_reducible repeat (first | refine blk_drewN ?_ _ | refine blk_drew ?_ | refine blk_alloc ?_ _)); exact BKg35.out) k_ h_⟩) (by (with_reducible repeat (first | apply Kd.N_alloc | apply Kd.N_drewN | apply Kd.N_drew)); exact HN15.out) (by repeat (first | (with_reducible first | exact HB.out | apply below_alloc | apply pw_below_drewN | apply below_drew1) | exact HB.out)) (below_size (by repeat (first | (with_reducible first | exact HB.out | apply below_alloc | apply pw_below_drewN | apply below_drew1) | exact HB.out))) (by first | (have := LMc87.out; omega) | (have := LMc87.out; simp at *; omega)) ?_; intro v89 w90 hn1 hb1 hg1 hat1); replace hat1 := Aside0.mk hat1; refine stop_ ?_)
                  refine Stop.go ?_
                  replace hat1 := hat1.out
                  replace HF0_4 := Aside0.mk (Kd.F_mono (Kd.F_after (v := v14) (ok := (fun k_ => (P_ k_ ∨ w.heap.size ≤ k_) ∧ k_ ≠ g1 ∧ k_ ≠ g35)) (Kd.F_mono (ok := (fun k_ => (P_ k_ ∨ w.heap.size ≤ k_) ∧ some k_ ≠ (v14 : Value).ownBlock ∧ k_ ≠ g1 ∧ k_ ≠ g35)) (by (with_reducible repeat (first | apply Kd.F_alloc | apply Kd.F_drewN | apply Kd.F_drew)); exact HF0_4.out) (fun k_ hk_ => ⟨⟨hk_.1, hk_.2.2.1, hk_.2.2.2⟩, hk_.2.1⟩)) hg1 hat1) (fun k_ hk_ => ⟨hk_.1.1, hk_.1.2.1, hk_.1.2.2, hk_.2⟩) : Kd.F k28 _ (fun k_ => (P_ k_ ∨ w.heap.size ≤ k_) ∧ k_ ≠ g1 ∧ k_ ≠ g35 ∧ some k_ ≠ (v89 : Value).ownBlock) _ _ _)
                  replace HF34_4 := Aside0.mk (Kd.F_mono (Kd.F_after (v := v14) (ok := (fun k_ => (P_ k_ ∨ w.heap.size ≤ k_) ∧ k_ ≠ g1 ∧ k_ ≠ g35)) (Kd.F_mono (ok := (fun k_ => (P_ k_ ∨ w.heap.size ≤ k_) ∧ some k_ ≠ (v14 : Value).ownBlock ∧ k_ ≠ g1 ∧ k_ ≠ g35)) (by (with_reducible repeat (first | apply Kd.F_alloc | apply Kd.F_drewN | apply Kd.F_drew)); exact HF34_4.out) (fun k_ hk_ => ⟨⟨hk_.1, hk_.2.2.1, hk_.2.2.2⟩, hk_.2.1⟩)) hg1 hat1) (fun k_ hk_ => ⟨hk_.1.1, hk_.1.2.1, hk_.1.2.2, hk_.2⟩) : Kd.F k28 _ (fun k_ => (P_ k_ ∨ w.heap.size ≤ k_) ∧ k_ ≠ g1 ∧ k_ ≠ g35 ∧ some k_ ≠ (v89 : Value).ownBlock) _ _ _)
                  replace BKg1 := Aside0.mk (blk_grown (o := .cells #[.int .i64 a0_0, .bool a0_1, .int .i64 a0_2, .string a0_3, .slice (some ad34) l0_4.length c0_4] 28 (0, 0)) (by (with_reducible repeat (first | refine blk_drewN ?_ _ | refine blk_drew ?_ | refine blk_alloc ?_ _)); exact BKg1.out) hg1 (Kd.N_away (ok := (fun k_ => (P_ k_ ∨ w.heap.size ≤ k_) ∧ k_ ≠ g1 ∧ k_ ≠ g35)) HN15.out (fun k_ hk_ => hk_.2.1)))
                  replace BKg35 := Aside0.mk (blk_grown (o := .cells #[.int .i64 ((rd_T28 l0_4 x16).f0), .bool ((rd_T28 l0_4 x16).f1), .int .i64 ((rd_T28 l0_4 x16).f2), .string ((rd_T28 l0_4 x16).f3), .slice A34_4 ((rd_T28 l0_4 x16).f4).length c34_4] 28 (0, 0)) (by (with_reducible repeat (first | refine blk_drewN ?_ _ | refine blk_drew ?_ | refine blk_alloc ?_ _)); exact BKg35.out) hg1 (Kd.N_away (ok := (fun k_ => (P_ k_ ∨ w.heap.size ≤ k_) ∧ k_ ≠ g1 ∧ k_ ≠ g35)) HN15.out (fun k_ hk_ => hk_.2.2)))
                  replace HB := Aside0.mk hb1
                  clear HN15
                  have HN91 := Aside0.mk hn1
                  clear hn1 hb1 hg1 hat1
                  replace HN91 := Aside0.mk (by rw [NYy88.out]; exact HN91.out : Kd.N Kd.string 9 w90 w.heap.size (fun k_ => (P_ k_ ∨ w.heap.size ≤ k_) ∧ k_ ≠ g1 ∧ k_ ≠ g35) v89 y88)
                  clear hz58 hz59 hz60 hz61 hz62 hf63 hf64 hf65 hf66 hf67 hz68 hz69 hz70 hz71 hz72 hf73 hf74 hf75 hf76 hf77
                  have hz92 : w90.cell? ⟨g1, 0, none⟩ = some (.int .i64 a0_0) := (blk_cell BKg1.out 0).trans rfl
                  have hz93 : w90.cell? ⟨g1, 1, none⟩ = some (.bool a0_1) := (blk_cell BKg1.out 1).trans rfl
                  have hz94 : w90.cell? ⟨g1, 2, none⟩ = some (.int .i64 a0_2) := (blk_cell BKg1.out 2).trans rfl
                  have hz95 : w90.cell? ⟨g1, 3, none⟩ = some (.string a0_3) := (blk_cell BKg1.out 3).trans rfl
                  have hz96 : w90.cell? ⟨g1, 4, none⟩ = some (.slice (some ad34) l0_4.length c0_4) := (blk_cell BKg1.out 4).trans rfl
                  have hf97 := blk_frozen BKg1.out 0
                  have hf98 := blk_frozen BKg1.out 1
                  have hf99 := blk_frozen BKg1.out 2
                  have hf100 := blk_frozen BKg1.out 3
                  have hf101 := blk_frozen BKg1.out 4
                  have hz102 : w90.cell? ⟨g35, 0, none⟩ = some (.int .i64 ((rd_T28 l0_4 x16).f0)) := (blk_cell BKg35.out 0).trans rfl
                  have hz103 : w90.cell? ⟨g35, 1, none⟩ = some (.bool ((rd_T28 l0_4 x16).f1)) := (blk_cell BKg35.out 1).trans rfl
                  have hz104 : w90.cell? ⟨g35, 2, none⟩ = some (.int .i64 ((rd_T28 l0_4 x16).f2)) := (blk_cell BKg35.out 2).trans rfl
                  have hz105 : w90.cell? ⟨g35, 3, none⟩ = some (.string ((rd_T28 l0_4 x16).f3)) := (blk_cell BKg35.out 3).trans rfl
                  have hz106 : w90.cell? ⟨g35, 4, none⟩ = some (.slice A34_4 ((rd_T28 l0_4 x16).f4).length c34_4) := (blk_cell BKg35.out 4).trans rfl
                  have hf107 := blk_frozen BKg35.out 0
                  have hf108 := blk_frozen BKg35.out 1
                  have hf109 := blk_frozen BKg35.out 2
                  have hf110 := blk_frozen BKg35.out 3
                  have hf111 := blk_frozen BKg35.out 4
                  go_wp2
                  go_roundg k17
                  case measure => have := HK0.out; omega
                  case rel => exact ⟨y88, wrap64 (x16 + 1), (by first | rfl | (simp; done) | (simp [*]; done)), HH, ⟨by have := HK0.out; omega⟩, ⟨(Kd.F_mono (ok := (fun k_ => (P_ k_ ∨ w.heap.size ≤ k_) ∧ k_ ≠ g1 ∧ k_ ≠ g35 ∧ some k_ ≠ (v89 : Value).ownBlock)) (by (with_reducible repeat (first | apply Kd.F_alloc | apply Kd.F_drewN | apply Kd.F_drew)); exact HF0_4.out) (fun k_ hk_ => ⟨hk_.1, hk_.2.2.2, hk_.2.1⟩))⟩, ⟨(Kd.N_mono (ok := (fun k_ => (P_ k_ ∨ w.heap.size ≤ k_) ∧ k_ ≠ g1 ∧ k_ ≠ g35)) (by (with_reducible repeat (first | apply Kd.N_alloc | apply Kd.N_drewN | apply Kd.N_drew)); exact HN91.out) (fun k_ hk_ => ⟨hk_.1, hk_.2.1⟩))⟩, ⟨(by (with_reducible repeat (first | refine blk_drewN ?_ _ | refine blk_drew ?_ | refine blk_alloc ?_ _)); exact BKg1.out)⟩, ⟨(by repeat (first | (with_reducible first | exact HB.out | apply below_alloc | apply pw_below_drewN | apply below_drew1) | exact HB.out))⟩⟩
                · exact absurd HH.out (by rw [if_neg c87]; simp)
            · have H := HH.out
              rw [if_neg c81] at H
              replace HH := Aside0.mk H
              clear H
              have hk112 : (((rd_T28 l0_4 x16).f2) == 4) = false := beq_eq_false_iff_ne.mpr c81
              have hk113 : (((rd_T28 l0_4 x16).f2) != 4) = true := bne_iff_ne.mpr c81
              clear c81
              have H := HH.out
              simp only [Option.some.injEq, Prod.mk.injEq] at H
              obtain ⟨rfl, rfl⟩ := H
              clear HH
              go_wp2
              go_ret2
              exact ⟨_, by first | rfl | (simp; done) | (simp [*]; done), (Kd.N_nil _ _ _ _ _), (by repeat (first | (with_reducible first | exact HB.out | apply below_alloc | apply pw_below_drewN | apply below_drew1) | exact HB.out))⟩
          · have H := HH.out
            rw [if_neg c78] at H
            replace HH := Aside0.mk H
            clear H
            have hk114 : (((rd_T28 l0_4 x16).f0) == 0) = false := beq_eq_false_iff_ne.mpr c78
            have hk115 : (((rd_T28 l0_4 x16).f0) != 0) = true := bne_iff_ne.mpr c78
            clear c78
            have H := HH.out
            simp only [Option.some.injEq, Prod.mk.injEq] at H
            obtain ⟨rfl, rfl⟩ := H
            clear HH
            go_wp2
            go_ret2
            exact ⟨_, by first | rfl | (simp; done) | (simp [*]; done), (Kd.N_nil _ _ _ _ _), (by repeat (first | (with_reducible first | exact HB.out | apply below_alloc | apply pw_below_drewN | apply below_drew1) | exact HB.out))⟩
        · exact absurd HH.out (by rw [if_neg c32]; simp)
      · have H := HH.out
        rw [if_neg c29] at H
        replace HH := Aside0.mk H
        clear H
        have hk117 : (x16 < (l0_4.length : Int)) = False := eq_false c29
        have hk118 : decide (x16 < (l0_4.length : Int)) = false := decide_eq_false c29
        clear c29
        by_cases c119 : a0_1 = true
        · have H := HH.out
          rw [if_pos c119] at H
          replace HH := Aside0.mk H
          clear H
          subst c119
          have H := HH.out
          simp only [Option.some.injEq, Prod.mk.injEq] at H
          obtain ⟨rfl, rfl⟩ := H
          clear HH
          go_wp2
          go_ret2
          exact ⟨_, by first | rfl | (simp; done) | (simp [*]; done), (Kd.N_mono (ok := (fun k_ => (P_ k_ ∨ w.heap.size ≤ k_) ∧ k_ ≠ g1)) (by (with_reducible repeat (first | apply Kd.N_alloc | apply Kd.N_drewN | apply Kd.N_drew)); exact HN15.out) (fun k_ hk_ => hk_.1)), (by repeat (first | (with_reducible first | exact HB.out | apply below_alloc | apply pw_below_drewN | apply below_drew1) | exact HB.out))⟩
        · have H := HH.out
          rw [if_neg c119] at H
          replace HH := Aside0.mk H
          clear H
          replace c119 := Bool.eq_false_iff.mpr c119
          subst c119
          have H := HH.out
          simp only [Option.some.injEq, Prod.mk.injEq] at H
          obtain ⟨rfl, rfl⟩ := H
          clear HH
          go_wp2
          go_ret2
          exact ⟨_, by first | rfl | (simp; done) | (simp [*]; done), (Kd.N_nil _ _ _ _ _), (by repeat (first | (with_reducible first | exact HB.out | apply below_alloc | apply pw_below_drewN | apply below_drew1) | exact HB.out))⟩

end Go.Proofs.Ytliackbiljhioaa.GA
