-- written by wip/gen.py, a program of this session
import Derived.Test.YtliackbiljhioaaGA0
import Derived.Test.YtliackbiljhioaaGA3
namespace Go.Proofs.Ytliackbiljhioaa.GA
open Go.RowKit Go.Proofs.Ytliackbiljhioaa Go.Proofs.Ytliackbiljhioaa.MW Go.Proofs.YtliackbiljhioaaW.PrintWords Go.Proofs.YtliackbiljhioaaW.PrintLast Go.Proofs.YtliackbiljhioaaW.PrintMore
attribute [local go_sem] max2_int min2_int max_two min_two
set_option linter.unusedVariables false
set_option linter.unusedSimpArgs false

/-! ### prims_Texts: function 24 -/
def prims_Texts.l0 : Nat → (List ByteArray) → Int → (List (S28)) → Option (List ByteArray × Int)
  | 0, _, _, _ => none
  | k + 1, x14, x17, l0_4 => if x17 < (l0_4.length : Int) then (if 0 ≤ x17 then ((prims_Is.f ((rd_T28 l0_4 x17).f0) ((rd_T28 l0_4 x17).f1) ((rd_T28 l0_4 x17).f2) ((rd_T28 l0_4 x17).f3) ((rd_T28 l0_4 x17).f4) 0 4 false).bind fun t79 => (if t79 = true then (if x14.length < 8796093022208 then ((some (x14 ++ [(rd_T28 l0_4 x17).f3] : List ByteArray)).bind fun y104 => ((prims_Texts.l0 k y104 (wrap64 (x17 + 1)) l0_4))) else (none)) else (some (([] : List ByteArray), 160)))) else (none)) else (some (x14, 0))
def prims_Texts.f (k : Nat) (a0_0 : Int) (a0_1 : Bool) (a0_2 : Int) (a0_3 : ByteArray) (l0_4 : List (S28)) : Option (List ByteArray × Int) := if a0_1 = true then ((prims_Texts.l0 k ([] : List ByteArray) 0 l0_4)) else (some (([] : List ByteArray), 160))
theorem prims_Texts.mono_l : ∀ k, (∀ y0 y1 y2, LeO (prims_Texts.l0 k y0 y1 y2) (prims_Texts.l0 (k + 1) y0 y1 y2))
  | 0 => fun _ _ _ r h => by simp [prims_Texts.l0] at h
  | k + 1 => by
    have ih0 := prims_Texts.mono_l k
    · intro y0 y1 y2
      unfold prims_Texts.l0
      repeat' first
      | (with_reducible exact ih0 _ _ _)
      | (with_reducible exact LeO.refl _)
      | (with_reducible exact LeO.none _)
      | (with_reducible refine LeO.ite ?_ ?_)
      | (with_reducible refine LeO.bind ?_ (fun _ => ?_))
      | exact ih0 _ _ _
      | exact LeO.none _
      | refine LeO.ite ?_ ?_
      | refine LeO.bind ?_ (fun _ => ?_)
theorem prims_Texts.mono : ∀ a0_ a1_ a2_ a3_ a4_ k, LeO (prims_Texts.f k a0_ a1_ a2_ a3_ a4_) (prims_Texts.f (k + 1) a0_ a1_ a2_ a3_ a4_) := by
  intro a0_ a1_ a2_ a3_ a4_ k
  have ih0 := prims_Texts.mono_l k
  unfold prims_Texts.f
  repeat' first
      | (with_reducible exact ih0 _ _ _)
      | (with_reducible exact LeO.refl _)
      | (with_reducible exact LeO.none _)
      | (with_reducible refine LeO.ite ?_ ?_)
      | (with_reducible refine LeO.bind ?_ (fun _ => ?_))
      | exact ih0 _ _ _
      | exact LeO.none _
      | refine LeO.ite ?_ ?_
      | refine LeO.bind ?_ (fun _ => ?_)
set_option maxHeartbeats 8000000 in
set_option maxRecDepth 100000 in
theorem prims_Texts.calls (k : Nat) (P_ : Nat → Prop) (a0_0 : Int) (a0_1 : Bool) (a0_2 : Int) (a0_3 : ByteArray) (A0_4 : Option Addr) (c0_4 : Nat) (l0_4 : List (S28)) (r1 : List ByteArray) (r2 : Int) (w : World) (hs0_4 : Kd.F k28 w P_ A0_4 l0_4.length l0_4) (hc0_4 : l0_4.length ≤ c0_4) (h : prims_Texts.f k a0_0 a0_1 a0_2 a0_3 l0_4 = some (r1, r2)) :
    Calls Try.prog 24 #[.agg #[.int .i64 a0_0, .bool a0_1, .int .i64 a0_2, .string a0_3, .slice A0_4 l0_4.length c0_4]] w fun e w' => ∃ v0_ : Value, e = .returned (.tuple #[v0_, .int .i64 r2]) ∧ Kd.N Kd.string 9 w' w.heap.size (fun k_ => P_ k_ ∨ w.heap.size ≤ k_) v0_ r1 ∧ Below w.heap.size w w' := by
  have HH := Aside0.mk (show (if a0_1 = true then ((prims_Texts.l0 k ([] : List ByteArray) 0 l0_4)) else (some (([] : List ByteArray), 160))) = some (r1, r2) from h)
  clear h
  have HF0_4 := Aside0.mk (Kd.F_mono hs0_4 (fun k_ hk_ => (.inl hk_ : P_ k_ ∨ w.heap.size ≤ k_)))
  have HL0_4 := Aside0.mk hc0_4
  clear hs0_4 hc0_4
  have HB := Aside0.mk (Below.refl w.heap.size w)
  have hu28 := Try.underlying28
  go_enter Try.func24, Try.ntmps24
  go_wp2_with (((with_reducible refine gate_dst (N := 1) rfl ?_); (try (refine gate_guard (by rfl) ?_; dsimp only)); refine box_event ?hg (N := 1) ?hd (cs := #[.int .i64 a0_0, .bool a0_1, .int .i64 a0_2, .string a0_3, .slice A0_4 l0_4.length c0_4]) (t := 28) ?hr ?_; (case hd => rfl); (case hg => rfl); (case hr => first | (go_simp; done) | (go_simp; rfl)); intro g1 hg w2 hbox hb); replace hg := Aside0.mk hg; replace hbox := Aside0.mk hbox; refine stop_ ?_)
  refine Stop.go ?_
  replace hg := hg.out
  replace hbox := hbox.out
  have GEg1 := Aside0.mk (by rw [hg]; exact (below_size (by repeat (first | (with_reducible first | exact HB.out | apply below_alloc | apply pw_below_drewN | apply below_drew1) | exact HB.out))) : w.heap.size ≤ g1)
  replace HF0_4 := Aside0.mk (Kd.F_elderB (by (with_reducible repeat (first | apply Kd.F_alloc | apply Kd.F_drewN | apply Kd.F_drew)); exact HF0_4.out) g1 (Nat.le_of_eq hg.symm))
  replace HF0_4 := Aside0.mk (Kd.F_mono HF0_4.out (fun k_ hk_ => ⟨hk_.1, hk_.2⟩) : Kd.F k28 _ (fun k_ => (P_ k_ ∨ w.heap.size ≤ k_) ∧ k_ ≠ g1) _ _ _)
  replace HF0_4 := Aside0.mk (Kd.F_below (by (with_reducible repeat (first | apply Kd.F_alloc | apply Kd.F_drewN | apply Kd.F_drew)); exact HF0_4.out) hb)
  replace HB := Aside0.mk (below_step (by repeat (first | (with_reducible first | exact HB.out | apply below_alloc | apply pw_below_drewN | apply below_drew1) | exact HB.out)) hb)
  have BKg1 := Aside0.mk hbox
  clear hg hbox hb
  have hz3 : w2.cell? ⟨g1, 0, none⟩ = some (.int .i64 a0_0) := (blk_cell BKg1.out 0).trans rfl
  have hz4 : w2.cell? ⟨g1, 1, none⟩ = some (.bool a0_1) := (blk_cell BKg1.out 1).trans rfl
  have hz5 : w2.cell? ⟨g1, 2, none⟩ = some (.int .i64 a0_2) := (blk_cell BKg1.out 2).trans rfl
  have hz6 : w2.cell? ⟨g1, 3, none⟩ = some (.string a0_3) := (blk_cell BKg1.out 3).trans rfl
  have hz7 : w2.cell? ⟨g1, 4, none⟩ = some (.slice A0_4 l0_4.length c0_4) := (blk_cell BKg1.out 4).trans rfl
  have hf8 := blk_frozen BKg1.out 0
  have hf9 := blk_frozen BKg1.out 1
  have hf10 := blk_frozen BKg1.out 2
  have hf11 := blk_frozen BKg1.out 3
  have hf12 := blk_frozen BKg1.out 4
  by_cases c13 : a0_1 = true
  · have H := HH.out
    rw [if_pos c13] at H
    replace HH := Aside0.mk H
    clear H
    subst c13
    go_wp2
    go_loopg [4, 13] k (fun kq u4 u13 w' => ∃ (x14 : List ByteArray) (x17 : Int), u13 = .int .i64 x17 ∧ Aside0 ((prims_Texts.l0 kq x14 x17 l0_4) = some (r1, r2)) ∧ Aside0 (kq ≤ k) ∧ Aside0 (Kd.F k28 w' (fun k_ => (P_ k_ ∨ w.heap.size ≤ k_) ∧ some k_ ≠ (u4 : Value).ownBlock ∧ k_ ≠ g1) A0_4 l0_4.length l0_4) ∧ Aside0 (Kd.N Kd.string 9 w' w.heap.size (fun k_ => (P_ k_ ∨ w.heap.size ≤ k_) ∧ k_ ≠ g1) u4 x14) ∧ Aside0 (w'.heap[g1]? = some (.cells #[.int .i64 a0_0, .bool true, .int .i64 a0_2, .string a0_3, .slice A0_4 l0_4.length c0_4] 28 (0, 0))) ∧ Aside0 (Below w.heap.size w w'))
    case atStart => exact ⟨([] : List ByteArray), 0, (by first | rfl | (simp; done) | (simp [*]; done)), HH, ⟨Nat.le_refl _⟩, ⟨(Kd.F_mono (ok := (fun k_ => (P_ k_ ∨ w.heap.size ≤ k_) ∧ k_ ≠ g1)) (by (with_reducible repeat (first | apply Kd.F_alloc | apply Kd.F_drewN | apply Kd.F_drew)); exact HF0_4.out) (fun k_ hk_ => ⟨hk_.1, (by simp [Value.ownBlock]), hk_.2⟩))⟩, ⟨Kd.N_nil _ _ _ _ _⟩, ⟨(by (with_reducible repeat (first | refine blk_drewN ?_ _ | refine blk_drew ?_ | refine blk_alloc ?_ _)); exact BKg1.out)⟩, ⟨(by repeat (first | (with_reducible first | exact HB.out | apply below_alloc | apply pw_below_drewN | apply below_drew1) | exact HB.out))⟩⟩
    case round =>
      clear hz3 hz4 hz5 hz6 hz7 hf8 hf9 hf10 hf11 hf12
      clear HH
      clear HF0_4 BKg1 HB
      obtain ⟨x14, x17, rfl, HA, HK0, HF0_4, HN16, BKg1, HB⟩ := hrel
      obtain ⟨v15, rfl⟩ : ∃ z_ : Value, z_ = u4 := ⟨_, rfl⟩
      obtain ⟨w19, rfl⟩ : ∃ wo_ : World, wo_ = wr := ⟨_, rfl⟩
      cases gk with
      | zero => exact absurd HA.out (by simp [prims_Texts.l0])
      | succ k18 =>
        have H := HA.out
        clear HA
        simp only [prims_Texts.l0] at H
        have HH := Aside0.mk H
        clear H
        have hz20 : w19.cell? ⟨g1, 0, none⟩ = some (.int .i64 a0_0) := (blk_cell BKg1.out 0).trans rfl
        have hz21 : w19.cell? ⟨g1, 1, none⟩ = some (.bool true) := (blk_cell BKg1.out 1).trans rfl
        have hz22 : w19.cell? ⟨g1, 2, none⟩ = some (.int .i64 a0_2) := (blk_cell BKg1.out 2).trans rfl
        have hz23 : w19.cell? ⟨g1, 3, none⟩ = some (.string a0_3) := (blk_cell BKg1.out 3).trans rfl
        have hz24 : w19.cell? ⟨g1, 4, none⟩ = some (.slice A0_4 l0_4.length c0_4) := (blk_cell BKg1.out 4).trans rfl
        have hf25 := blk_frozen BKg1.out 0
        have hf26 := blk_frozen BKg1.out 1
        have hf27 := blk_frozen BKg1.out 2
        have hf28 := blk_frozen BKg1.out 3
        have hf29 := blk_frozen BKg1.out 4
        by_cases c30 : x17 < (l0_4.length : Int)
        · have H := HH.out
          rw [if_pos c30] at H
          replace HH := Aside0.mk H
          clear H
          have hk31 : (x17 < (l0_4.length : Int)) = True := eq_true c30
          have hk32 : decide (x17 < (l0_4.length : Int)) = true := decide_eq_true c30
          clear c30
          by_cases c33 : 0 ≤ x17
          · have H := HH.out
            rw [if_pos c33] at H
            replace HH := Aside0.mk H
            clear H
            have hk34 : decide (0 ≤ x17) = true := decide_eq_true c33
            clear c33
            have p35 : 0 ≤ (x17 : Int) := of_decide_eq_true (by first | (with_reducible assumption) | assumption)
            have q35 : x17 < (l0_4.length : Int) := of_decide_eq_true (by first | (with_reducible assumption) | assumption)
            obtain ⟨ad35, A35_4, c35_4, e35, hx35_0, hx35_1, hx35_2, hx35_3, hx35_4, hl35_4, hi35_4⟩ := atF_T28 HF0_4.out x17 p35 q35
            cases e35
            have HF35_4 := Aside0.mk hi35_4
            have HL35_4 := Aside0.mk hl35_4
            clear hi35_4 hl35_4
            replace p35 := eq_true p35
            replace q35 := eq_true q35
            go_wp2_with (((with_reducible refine gate_dst (N := 6) rfl ?_); (try (refine gate_guard (by rfl) ?_; dsimp only)); refine box_event ?hg (N := 6) ?hd (cs := #[.int .i64 0, .bool false, .int .i64 0, .string (⟨#[]⟩ : ByteArray), .slice none 0 0]) (t := 28) ?hr ?_; (case hd => rfl); (case hg => rfl); (case hr => first | (go_simp; done) | (go_simp; rfl)); intro g36 hg w37 hbox hb); replace hg := Aside0.mk hg; replace hbox := Aside0.mk hbox; refine stop_ ?_)
            refine Stop.go ?_
            replace hg := hg.out
            replace hbox := hbox.out
            have GEg36 := Aside0.mk (by rw [hg]; exact (below_size (by repeat (first | (with_reducible first | exact HB.out | apply below_alloc | apply pw_below_drewN | apply below_drew1) | exact HB.out))) : w.heap.size ≤ g36)
            replace HF0_4 := Aside0.mk (Kd.F_elderB (by (with_reducible repeat (first | apply Kd.F_alloc | apply Kd.F_drewN | apply Kd.F_drew)); exact HF0_4.out) g36 (Nat.le_of_eq hg.symm))
            replace HF0_4 := Aside0.mk (Kd.F_mono HF0_4.out (fun k_ hk_ => ⟨hk_.1.1, hk_.1.2.1, hk_.1.2.2, hk_.2⟩) : Kd.F k28 _ (fun k_ => (P_ k_ ∨ w.heap.size ≤ k_) ∧ some k_ ≠ (v15 : Value).ownBlock ∧ k_ ≠ g1 ∧ k_ ≠ g36) _ _ _)
            replace HF35_4 := Aside0.mk (Kd.F_elderB (by (with_reducible repeat (first | apply Kd.F_alloc | apply Kd.F_drewN | apply Kd.F_drew)); exact HF35_4.out) g36 (Nat.le_of_eq hg.symm))
            replace HF35_4 := Aside0.mk (Kd.F_mono HF35_4.out (fun k_ hk_ => ⟨hk_.1.1, hk_.1.2.1, hk_.1.2.2, hk_.2⟩) : Kd.F k28 _ (fun k_ => (P_ k_ ∨ w.heap.size ≤ k_) ∧ some k_ ≠ (v15 : Value).ownBlock ∧ k_ ≠ g1 ∧ k_ ≠ g36) _ _ _)
            replace HN16 := Aside0.mk (Kd.N_elderB (by (with_reducible repeat (first | apply Kd.N_alloc | apply Kd.N_drewN | apply Kd.N_drew)); exact HN16.out) g36 (Nat.le_of_eq hg.symm))
            replace HN16 := Aside0.mk (Kd.N_mono HN16.out (fun k_ hk_ => ⟨hk_.1.1, hk_.1.2, hk_.2⟩) : Kd.N Kd.string _ _ _ (fun k_ => (P_ k_ ∨ w.heap.size ≤ k_) ∧ k_ ≠ g1 ∧ k_ ≠ g36) _ _)
            have NEg1_g36 := Aside0.mk (by rw [hg]; exact Nat.ne_of_lt (blk_lt (o := .cells #[.int .i64 a0_0, .bool true, .int .i64 a0_2, .string a0_3, .slice (some ad35) l0_4.length c0_4] 28 (0, 0)) (by (with_reducible repeat (first | refine blk_drewN ?_ _ | refine blk_drew ?_ | refine blk_alloc ?_ _)); exact BKg1.out)) : g1 ≠ g36)
            have NEg36_g1 := Aside0.mk (Ne.symm NEg1_g36.out)
            replace HF0_4 := Aside0.mk (Kd.F_below (by (with_reducible repeat (first | apply Kd.F_alloc | apply Kd.F_drewN | apply Kd.F_drew)); exact HF0_4.out) hb)
            replace HF35_4 := Aside0.mk (Kd.F_below (by (with_reducible repeat (first | apply Kd.F_alloc | apply Kd.F_drewN | apply Kd.F_drew)); exact HF35_4.out) hb)
            replace HN16 := Aside0.mk (Kd.N_below (by (with_reducible repeat (first | apply Kd.N_alloc | apply Kd.N_drewN | apply Kd.N_drew)); exact HN16.out) hb)
            replace BKg1 := Aside0.mk (blk_below (o := .cells #[.int .i64 a0_0, .bool true, .int .i64 a0_2, .string a0_3, .slice (some ad35) l0_4.length c0_4] 28 (0, 0)) (by (with_reducible repeat (first | refine blk_drewN ?_ _ | refine blk_drew ?_ | refine blk_alloc ?_ _)); exact BKg1.out) hb)
            replace HB := Aside0.mk (below_step (by repeat (first | (with_reducible first | exact HB.out | apply below_alloc | apply pw_below_drewN | apply below_drew1) | exact HB.out)) hb)
            have BKg36 := Aside0.mk hbox
            clear hg hbox hb
            clear hz20 hz21 hz22 hz23 hz24 hf25 hf26 hf27 hf28 hf29 hx35_0 hx35_1 hx35_2 hx35_3 hx35_4 p35 q35
            have hz38 : w37.cell? ⟨g1, 0, none⟩ = some (.int .i64 a0_0) := (blk_cell BKg1.out 0).trans rfl
            have hz39 : w37.cell? ⟨g1, 1, none⟩ = some (.bool true) := (blk_cell BKg1.out 1).trans rfl
            have hz40 : w37.cell? ⟨g1, 2, none⟩ = some (.int .i64 a0_2) := (blk_cell BKg1.out 2).trans rfl
            have hz41 : w37.cell? ⟨g1, 3, none⟩ = some (.string a0_3) := (blk_cell BKg1.out 3).trans rfl
            have hz42 : w37.cell? ⟨g1, 4, none⟩ = some (.slice (some ad35) l0_4.length c0_4) := (blk_cell BKg1.out 4).trans rfl
            have hf43 := blk_frozen BKg1.out 0
            have hf44 := blk_frozen BKg1.out 1
            have hf45 := blk_frozen BKg1.out 2
            have hf46 := blk_frozen BKg1.out 3
            have hf47 := blk_frozen BKg1.out 4
            have hz48 : w37.cell? ⟨g36, 0, none⟩ = some (.int .i64 0) := (blk_cell BKg36.out 0).trans rfl
            have hz49 : w37.cell? ⟨g36, 1, none⟩ = some (.bool false) := (blk_cell BKg36.out 1).trans rfl
            have hz50 : w37.cell? ⟨g36, 2, none⟩ = some (.int .i64 0) := (blk_cell BKg36.out 2).trans rfl
            have hz51 : w37.cell? ⟨g36, 3, none⟩ = some (.string (⟨#[]⟩ : ByteArray)) := (blk_cell BKg36.out 3).trans rfl
            have hz52 : w37.cell? ⟨g36, 4, none⟩ = some (.slice none 0 0) := (blk_cell BKg36.out 4).trans rfl
            have hf53 := blk_frozen BKg36.out 0
            have hf54 := blk_frozen BKg36.out 1
            have hf55 := blk_frozen BKg36.out 2
            have hf56 := blk_frozen BKg36.out 3
            have hf57 := blk_frozen BKg36.out 4
            go_wp2_with (((with_reducible refine gate_store (t := 28) (p := 6) rfl ?_); (try (refine gate_guard (by rfl) ?_; dsimp only)); refine MW.ev_store #[.int .i64 ((rd_T28 l0_4 x17).f0), .bool ((rd_T28 l0_4 x17).f1), .int .i64 ((rd_T28 l0_4 x17).f2), .string ((rd_T28 l0_4 x17).f3), .slice A35_4 ((rd_T28 l0_4 x17).f4).length c35_4] rfl rfl rfl rfl (cs := #[.int .i64 0, .bool false, .int .i64 0, .string (⟨#[]⟩ : ByteArray), .slice none 0 0]) (ty := 28) (by (with_reducible repeat (first | refine blk_drewN ?_ _ | refine blk_drew ?_ | refine blk_alloc ?_ _)); exact BKg36.out) [.int .i64 ((rd_T28 l0_4 x17).f0), .bool ((rd_T28 l0_4 x17).f1), .int .i64 ((rd_T28 l0_4 x17).f2), .string ((rd_T28 l0_4 x17).f3), .slice A35_4 ((rd_T28 l0_4 x17).f4).length c35_4] rfl (by kernel_rfl) (by simp) (by simp [Value.oneCell']) rfl ?_; intro w58 hbk hg); replace hbk := Aside0.mk hbk; refine stop_ ?_)
            refine Stop.go ?_
            replace hbk := hbk.out
            replace HF0_4 := Aside0.mk (Kd.F_grown (ok := (fun k_ => (P_ k_ ∨ w.heap.size ≤ k_) ∧ some k_ ≠ (v15 : Value).ownBlock ∧ k_ ≠ g1 ∧ k_ ≠ g36)) (by (with_reducible repeat (first | apply Kd.F_alloc | apply Kd.F_drewN | apply Kd.F_drew)); exact HF0_4.out) hg (fun k_ hk_ he_ => hk_.2.2.2 (Option.some.inj he_)))
            replace HF35_4 := Aside0.mk (Kd.F_grown (ok := (fun k_ => (P_ k_ ∨ w.heap.size ≤ k_) ∧ some k_ ≠ (v15 : Value).ownBlock ∧ k_ ≠ g1 ∧ k_ ≠ g36)) (by (with_reducible repeat (first | apply Kd.F_alloc | apply Kd.F_drewN | apply Kd.F_drew)); exact HF35_4.out) hg (fun k_ hk_ he_ => hk_.2.2.2 (Option.some.inj he_)))
            replace HN16 := Aside0.mk (Kd.N_grown (ok := (fun k_ => (P_ k_ ∨ w.heap.size ≤ k_) ∧ k_ ≠ g1 ∧ k_ ≠ g36)) (by (with_reducible repeat (first | apply Kd.N_alloc | apply Kd.N_drewN | apply Kd.N_drew)); exact HN16.out) hg (fun k_ hk_ he_ => hk_.2.2 (Option.some.inj he_)))
            replace BKg1 := Aside0.mk (blk_grown (o := .cells #[.int .i64 a0_0, .bool true, .int .i64 a0_2, .string a0_3, .slice (some ad35) l0_4.length c0_4] 28 (0, 0)) (by (with_reducible repeat (first | refine blk_drewN ?_ _ | refine blk_drew ?_ | refine blk_alloc ?_ _)); exact BKg1.out) hg (fun he_ => NEg1_g36.out (Option.some.inj he_)))
            replace HB := Aside0.mk (Below.grown (by repeat (first | (with_reducible first | exact HB.out | apply below_alloc | apply pw_below_drewN | apply below_drew1) | exact HB.out)) hg (below_size (by repeat (first | (with_reducible first | exact HB.out | apply below_alloc | apply pw_below_drewN | apply below_drew1) | exact HB.out))) (fun k_ hk_ => by injection hk_ with hk_; rw [← hk_]; exact GEg36.out))
            replace BKg36 := Aside0.mk hbk
            clear hg hbk
            clear hz38 hz39 hz40 hz41 hz42 hf43 hf44 hf45 hf46 hf47 hz48 hz49 hz50 hz51 hz52 hf53 hf54 hf55 hf56 hf57
            have hz59 : w58.cell? ⟨g1, 0, none⟩ = some (.int .i64 a0_0) := (blk_cell BKg1.out 0).trans rfl
            have hz60 : w58.cell? ⟨g1, 1, none⟩ = some (.bool true) := (blk_cell BKg1.out 1).trans rfl
            have hz61 : w58.cell? ⟨g1, 2, none⟩ = some (.int .i64 a0_2) := (blk_cell BKg1.out 2).trans rfl
            have hz62 : w58.cell? ⟨g1, 3, none⟩ = some (.string a0_3) := (blk_cell BKg1.out 3).trans rfl
            have hz63 : w58.cell? ⟨g1, 4, none⟩ = some (.slice (some ad35) l0_4.length c0_4) := (blk_cell BKg1.out 4).trans rfl
            have hf64 := blk_frozen BKg1.out 0
            have hf65 := blk_frozen BKg1.out 1
            have hf66 := blk_frozen BKg1.out 2
            have hf67 := blk_frozen BKg1.out 3
            have hf68 := blk_frozen BKg1.out 4
            have hz69 : w58.cell? ⟨g36, 0, none⟩ = some (.int .i64 ((rd_T28 l0_4 x17).f0)) := (blk_cell BKg36.out 0).trans rfl
            have hz70 : w58.cell? ⟨g36, 1, none⟩ = some (.bool ((rd_T28 l0_4 x17).f1)) := (blk_cell BKg36.out 1).trans rfl
            have hz71 : w58.cell? ⟨g36, 2, none⟩ = some (.int .i64 ((rd_T28 l0_4 x17).f2)) := (blk_cell BKg36.out 2).trans rfl
            have hz72 : w58.cell? ⟨g36, 3, none⟩ = some (.string ((rd_T28 l0_4 x17).f3)) := (blk_cell BKg36.out 3).trans rfl
            have hz73 : w58.cell? ⟨g36, 4, none⟩ = some (.slice A35_4 ((rd_T28 l0_4 x17).f4).length c35_4) := (blk_cell BKg36.out 4).trans rfl
            have hf74 := blk_frozen BKg36.out 0
            have hf75 := blk_frozen BKg36.out 1
            have hf76 := blk_frozen BKg36.out 2
            have hf77 := blk_frozen BKg36.out 3
            have hf78 := blk_frozen BKg36.out 4
            have H := HH.out
            replace H := Option.bind_eq_some_iff.mp H
            obtain ⟨t79, at_, H⟩ := H
            have At80 := Aside0.mk at_
            clear at_
            replace HH := Aside0.mk (show (if t79 = true then (if x14.length < 8796093022208 then ((some (x14 ++ [(rd_T28 l0_4 x17).f3] : List ByteArray)).bind fun y104 => ((prims_Texts.l0 k18 y104 (wrap64 (x17 + 1)) l0_4))) else (none)) else (some (([] : List ByteArray), 160))) = some (r1, r2) from H)
            clear H
            go_wp2_with (((with_reducible refine gate_callee (f := 13) rfl ?_); (try (refine gate_guard (by rfl) ?_; dsimp only)); refine goesL_ (some 18) rfl rfl Try.func13 (by kernel_rfl) rfl #[.agg #[.int .i64 ((rd_T28 l0_4 x17).f0), .bool ((rd_T28 l0_4 x17).f1), .int .i64 ((rd_T28 l0_4 x17).f2), .string ((rd_T28 l0_4 x17).f3), .slice A35_4 ((rd_T28 l0_4 x17).f4).length c35_4], .int .i64 0, .int .i64 4, .bool false] rfl (by (try simp only [List.map_toArray, List.map_cons, List.map_nil]); first | done | rfl | (simp only [List.length_drop, List.length_take]; rfl)) ?_; (with_reducible refine (prims_Is.calls (fun k_ => (P_ k_ ∨ w.heap.size ≤ k_) ∧ some k_ ≠ (v15 : Value).ownBlock ∧ k_ ≠ g1 ∧ k_ ≠ g36) ((rd_T28 l0_4 x17).f0) ((rd_T28 l0_4 x17).f1) ((rd_T28 l0_4 x17).f2) ((rd_T28 l0_4 x17).f3) _ _ ((rd_T28 l0_4 x17).f4) 0 4 false t79 _ (Kd.F_mono (ok := (fun k_ => (P_ k_ ∨ w.heap.size ≤ k_) ∧ some k_ ≠ (v15 : Value).ownBlock ∧ k_ ≠ g1 ∧ k_ ≠ g36)) (by (with_reducible repeat (first | apply Kd.F_alloc | apply Kd.F_drewN | apply Kd.F_drew)); exact HF35_4.out) (fun k_ hk_ => ⟨hk_.1, hk_.2.1, hk_.2.2.1, hk_.2.2.2⟩)) HL35_4.out At80.out).mono ?_); rintro e w81 ⟨rfl, hb⟩; refine ⟨_, rfl, ?_⟩); refine stop_ ?_)
            refine Stop.go ?_
            replace HF0_4 := Aside0.mk (Kd.F_below (by (with_reducible repeat (first | apply Kd.F_alloc | apply Kd.F_drewN | apply Kd.F_drew)); exact HF0_4.out) hb)
            replace HF35_4 := Aside0.mk (Kd.F_below (by (with_reducible repeat (first | apply Kd.F_alloc | apply Kd.F_drewN | apply Kd.F_drew)); exact HF35_4.out) hb)
            replace HN16 := Aside0.mk (Kd.N_below (by (with_reducible repeat (first | apply Kd.N_alloc | apply Kd.N_drewN | apply Kd.N_drew)); exact HN16.out) hb)
            replace BKg1 := Aside0.mk (blk_below (o := .cells #[.int .i64 a0_0, .bool true, .int .i64 a0_2, .string a0_3, .slice (some ad35) l0_4.length c0_4] 28 (0, 0)) (by (with_reducible repeat (first | refine blk_drewN ?_ _ | refine blk_drew ?_ | refine blk_alloc ?_ _)); exact BKg1.out) hb)
            replace BKg36 := Aside0.mk (blk_below (o := .cells #[.int .i64 ((rd_T28 l0_4 x17).f0), .bool ((rd_T28 l0_4 x17).f1), .int .i64 ((rd_T28 l0_4 x17).f2), .string ((rd_T28 l0_4 x17).f3), .slice A35_4 ((rd_T28 l0_4 x17).f4).length c35_4] 28 (0, 0)) (by (with_reducible repeat (first | refine blk_drewN ?_ _ | refine blk_drew ?_ | refine blk_alloc ?_ _)); exact BKg36.out) hb)
            replace HB := Aside0.mk (below_step (by repeat (first | (with_reducible first | exact HB.out | apply below_alloc | apply pw_below_drewN | apply below_drew1) | exact HB.out)) hb)
            clear hb
            clear hz59 hz60 hz61 hz62 hz63 hf64 hf65 hf66 hf67 hf68 hz69 hz70 hz71 hz72 hz73 hf74 hf75 hf76 hf77 hf78
            have hz82 : w81.cell? ⟨g1, 0, none⟩ = some (.int .i64 a0_0) := (blk_cell BKg1.out 0).trans rfl
            have hz83 : w81.cell? ⟨g1, 1, none⟩ = some (.bool true) := (blk_cell BKg1.out 1).trans rfl
            have hz84 : w81.cell? ⟨g1, 2, none⟩ = some (.int .i64 a0_2) := (blk_cell BKg1.out 2).trans rfl
            have hz85 : w81.cell? ⟨g1, 3, none⟩ = some (.string a0_3) := (blk_cell BKg1.out 3).trans rfl
            have hz86 : w81.cell? ⟨g1, 4, none⟩ = some (.slice (some ad35) l0_4.length c0_4) := (blk_cell BKg1.out 4).trans rfl
            have hf87 := blk_frozen BKg1.out 0
            have hf88 := blk_frozen BKg1.out 1
            have hf89 := blk_frozen BKg1.out 2
            have hf90 := blk_frozen BKg1.out 3
            have hf91 := blk_frozen BKg1.out 4
            have hz92 : w81.cell? ⟨g36, 0, none⟩ = some (.int .i64 ((rd_T28 l0_4 x17).f0)) := (blk_cell BKg36.out 0).trans rfl
            have hz93 : w81.cell? ⟨g36, 1, none⟩ = some (.bool ((rd_T28 l0_4 x17).f1)) := (blk_cell BKg36.out 1).trans rfl
            have hz94 : w81.cell? ⟨g36, 2, none⟩ = some (.int .i64 ((rd_T28 l0_4 x17).f2)) := (blk_cell BKg36.out 2).trans rfl
            have hz95 : w81.cell? ⟨g36, 3, none⟩ = some (.string ((rd_T28 l0_4 x17).f3)) := (blk_cell BKg36.out 3).trans rfl
            have hz96 : w81.cell? ⟨g36, 4, none⟩ = some (.slice A35_4 ((rd_T28 l0_4 x17).f4).length c35_4) := (blk_cell BKg36.out 4).trans rfl
            have hf97 := blk_frozen BKg36.out 0
            have hf98 := blk_frozen BKg36.out 1
            have hf99 := blk_frozen BKg36.out 2
            have hf100 := blk_frozen BKg36.out 3
            have hf101 := blk_frozen BKg36.out 4
            by_cases c102 : t79 = true
            · have H := HH.out
              rw [if_pos c102] at H
              replace HH := Aside0.mk H
              clear H
              subst c102
              by_cases c103 : x14.length < 8796093022208
              · have H := HH.out
                rw [if_pos c103] at H
                replace HH := Aside0.mk H
                clear H
                have LMc103 := Aside0.mk c103
                clear c103
                obtain ⟨y104, hy104⟩ : ∃ y_ : List ByteArray, y_ = (x14 ++ [(rd_T28 l0_4 x17).f3]) := ⟨_, rfl⟩
                have H : ((prims_Texts.l0 k18 y104 (wrap64 (x17 + 1)) l0_4)) = some (r1, r2) := by rw [hy104]; exact HH.out
                replace HH := Aside0.mk H
                clear H
                have NYy104 := Aside0.mk hy104
                clear hy104
                go_wp2_with (((with_reducible refine gate_dst (N := 24) rfl ?_); (try (refine gate_guard (by rfl) ?_; dsimp only)); refine Kd.N_append Kd.string w.heap.size rfl _ _ 53 9 (.string ⟨#[]⟩) 16 rfl Try.underlying53 info9 rfl (by decide) (by decide) (v15) x14 ((rd_T28 l0_4 x17).f3) [.string ((rd_T28 l0_4 x17).f3)] (fun k_ => (P_ k_ ∨ w.heap.size ≤ k_) ∧ k_ ≠ g1 ∧ k_ ≠ g36) (fun k_ => (fun k_ => (P_ k_ ∨ w.heap.size ≤ k_) ∧ k_ ≠ g1 ∧ k_ ≠ g36) k_ ∧ some k_ ≠ (v15 : Value).ownBlock) rfl rfl (fun _ _ => rfl) (fun _ hk_ => hk_) (fun k_ h_ => ⟨.inr (Nat.le_trans (below_size (by repeat (first | (with_reducible first | exact HB.out | apply below_alloc | apply pw_below_drewN | apply below_drew1) | exact HB.out))) h_), Kd.freshB (o := .cells #[.int .i64 a0_0, .bool true, .int .i64 a0_2, .string a0_3, .slice (some ad35) l0_4.length c0_4] 28 (0, 0)) (by (with_reducible repeat (first | refine blk_drewN ?_ _ | refine blk_drew ?_ | refine blk_alloc ?_ _)); exact BKg1.out) k_ h_, Kd.freshB (o := .cells #[.int .i64 ((rd_T28 l0_4 x17).f0), .bool ((rd_T28 l0_4 x17).f1), .int .i64 ((rd_T28 l0_4 x17).f2), .string ((rd_T28 l0_4 x17).f3), .slice A35_4 ((rd_T28 l0_4 x17).f4).length c35_4] 28 (0, 0)) (by (with_reducible repeat (first | refine blk_drewN ?_ _ | refine blk_drew ?_ | refine blk_alloc ?_ _)); exact BKg36.out) k_ h_⟩) (by (with_reducible repeat (first | apply Kd.N_alloc | apply Kd.N_drewN | apply Kd.N_drew)); exact HN16.out) (by repeat (first | (with_reducible first | exact HB.out | apply below_alloc | apply pw_below_drewN | apply below_drew1) | exact HB.out)) (below_size (by repeat (first | (with_reducible first | exact HB.out | apply below_alloc | apply pw_below_drewN | apply below_drew1) | exact HB.out))) (by first | (have := LMc103.out; omega) | (have := LMc103.out; simp at *; omega)) ?_; intro v105 w106 hn1 hb1 hg1 hat1); replace hat1 := Aside0.mk hat1; refine stop_ ?_)
                refine Stop.go ?_
                replace hat1 := hat1.out
                replace HF0_4 := Aside0.mk (Kd.F_mono (Kd.F_after (v := v15) (ok := (fun k_ => (P_ k_ ∨ w.heap.size ≤ k_) ∧ k_ ≠ g1 ∧ k_ ≠ g36)) (Kd.F_mono (ok := (fun k_ => (P_ k_ ∨ w.heap.size ≤ k_) ∧ some k_ ≠ (v15 : Value).ownBlock ∧ k_ ≠ g1 ∧ k_ ≠ g36)) (by (with_reducible repeat (first | apply Kd.F_alloc | apply Kd.F_drewN | apply Kd.F_drew)); exact HF0_4.out) (fun k_ hk_ => ⟨⟨hk_.1, hk_.2.2.1, hk_.2.2.2⟩, hk_.2.1⟩)) hg1 hat1) (fun k_ hk_ => ⟨hk_.1.1, hk_.1.2.1, hk_.1.2.2, hk_.2⟩) : Kd.F k28 _ (fun k_ => (P_ k_ ∨ w.heap.size ≤ k_) ∧ k_ ≠ g1 ∧ k_ ≠ g36 ∧ some k_ ≠ (v105 : Value).ownBlock) _ _ _)
                replace HF35_4 := Aside0.mk (Kd.F_mono (Kd.F_after (v := v15) (ok := (fun k_ => (P_ k_ ∨ w.heap.size ≤ k_) ∧ k_ ≠ g1 ∧ k_ ≠ g36)) (Kd.F_mono (ok := (fun k_ => (P_ k_ ∨ w.heap.size ≤ k_) ∧ some k_ ≠ (v15 : Value).ownBlock ∧ k_ ≠ g1 ∧ k_ ≠ g36)) (by (with_reducible repeat (first | apply Kd.F_alloc | apply Kd.F_drewN | apply Kd.F_drew)); exact HF35_4.out) (fun k_ hk_ => ⟨⟨hk_.1, hk_.2.2.1, hk_.2.2.2⟩, hk_.2.1⟩)) hg1 hat1) (fun k_ hk_ => ⟨hk_.1.1, hk_.1.2.1, hk_.1.2.2, hk_.2⟩) : Kd.F k28 _ (fun k_ => (P_ k_ ∨ w.heap.size ≤ k_) ∧ k_ ≠ g1 ∧ k_ ≠ g36 ∧ some k_ ≠ (v105 : Value).ownBlock) _ _ _)
                replace BKg1 := Aside0.mk (blk_grown (o := .cells #[.int .i64 a0_0, .bool true, .int .i64 a0_2, .string a0_3, .slice (some ad35) l0_4.length c0_4] 28 (0, 0)) (by (with_reducible repeat (first | refine blk_drewN ?_ _ | refine blk_drew ?_ | refine blk_alloc ?_ _)); exact BKg1.out) hg1 (Kd.N_away (ok := (fun k_ => (P_ k_ ∨ w.heap.size ≤ k_) ∧ k_ ≠ g1 ∧ k_ ≠ g36)) HN16.out (fun k_ hk_ => hk_.2.1)))
                replace BKg36 := Aside0.mk (blk_grown (o := .cells #[.int .i64 ((rd_T28 l0_4 x17).f0), .bool ((rd_T28 l0_4 x17).f1), .int .i64 ((rd_T28 l0_4 x17).f2), .string ((rd_T28 l0_4 x17).f3), .slice A35_4 ((rd_T28 l0_4 x17).f4).length c35_4] 28 (0, 0)) (by (with_reducible repeat (first | refine blk_drewN ?_ _ | refine blk_drew ?_ | refine blk_alloc ?_ _)); exact BKg36.out) hg1 (Kd.N_away (ok := (fun k_ => (P_ k_ ∨ w.heap.size ≤ k_) ∧ k_ ≠ g1 ∧ k_ ≠ g36)) HN16.out (fun k_ hk_ => hk_.2.2)))
                replace HB := Aside0.mk hb1
                clear HN16
                have HN107 := Aside0.mk hn1
                clear hn1 hb1 hg1 hat1
                replace HN107 := Aside0.mk (by rw [NYy104.out]; exact HN107.out : Kd.N Kd.string 9 w106 w.heap.size (fun k_ => (P_ k_ ∨ w.heap.size ≤ k_) ∧ k_ ≠ g1 ∧ k_ ≠ g36) v105 y104)
                clear hz82 hz83 hz84 hz85 hz86 hf87 hf88 hf89 hf90 hf91 hz92 hz93 hz94 hz95 hz96 hf97 hf98 hf99 hf100 hf101
                have hz108 : w106.cell? ⟨g1, 0, none⟩ = some (.int .i64 a0_0) := (blk_cell BKg1.out 0).trans rfl
                have hz109 : w106.cell? ⟨g1, 1, none⟩ = some (.bool true) := (blk_cell BKg1.out 1).trans rfl
                have hz110 : w106.cell? ⟨g1, 2, none⟩ = some (.int .i64 a0_2) := (blk_cell BKg1.out 2).trans rfl
                have hz111 : w106.cell? ⟨g1, 3, none⟩ = some (.string a0_3) := (blk_cell BKg1.out 3).trans rfl
                have hz112 : w106.cell? ⟨g1, 4, none⟩ = some (.slice (some ad35) l0_4.length c0_4) := (blk_cell BKg1.out 4).trans rfl
                have hf113 := blk_frozen BKg1.out 0
                have hf114 := blk_frozen BKg1.out 1
                have hf115 := blk_frozen BKg1.out 2
                have hf116 := blk_frozen BKg1.out 3
                have hf117 := blk_frozen BKg1.out 4
                have hz118 : w106.cell? ⟨g36, 0, none⟩ = some (.int .i64 ((rd_T28 l0_4 x17).f0)) := (blk_cell BKg36.out 0).trans rfl
                have hz119 : w106.cell? ⟨g36, 1, none⟩ = some (.bool ((rd_T28 l0_4 x17).f1)) := (blk_cell BKg36.out 1).trans rfl
                have hz120 : w106.cell? ⟨g36, 2, none⟩ = some (.int .i64 ((rd_T28 l0_4 x17).f2)) := (blk_cell BKg36.out 2).trans rfl
                have hz121 : w106.cell? ⟨g36, 3, none⟩ = some (.string ((rd_T28 l0_4 x17).f3)) := (blk_cell BKg36.out 3).trans rfl
                have hz122 : w106.cell? ⟨g36, 4, none⟩ = some (.slice A35_4 ((rd_T28 l0_4 x17).f4).length c35_4) := (blk_cell BKg36.out 4).trans rfl
                have hf123 := blk_frozen BKg36.out 0
                have hf124 := blk_frozen BKg36.out 1
                have hf125 := blk_frozen BKg36.out 2
                have hf126 := blk_frozen BKg36.out 3
                have hf127 := blk_frozen BKg36.out 4
                go_wp2
                go_roundg k18
                case measure => have := HK0.out; omega
                case rel => exact ⟨y104, wrap64 (x17 + 1), (by first | rfl | (simp; done) | (simp [*]; done)), HH, ⟨by have := HK0.out; omega⟩, ⟨(Kd.F_mono (ok := (fun k_ => (P_ k_ ∨ w.heap.size ≤ k_) ∧ k_ ≠ g1 ∧ k_ ≠ g36 ∧ some k_ ≠ (v105 : Value).ownBlock)) (by (with_reducible repeat (first | apply Kd.F_alloc | apply Kd.F_drewN | apply Kd.F_drew)); exact HF0_4.out) (fun k_ hk_ => ⟨hk_.1, hk_.2.2.2, hk_.2.1⟩))⟩, ⟨(Kd.N_mono (ok := (fun k_ => (P_ k_ ∨ w.heap.size ≤ k_) ∧ k_ ≠ g1 ∧ k_ ≠ g36)) (by (with_reducible repeat (first | apply Kd.N_alloc | apply Kd.N_drewN | apply Kd.N_drew)); exact HN107.out) (fun k_ hk_ => ⟨hk_.1, hk_.2.1⟩))⟩, ⟨(by (with_reducible repeat (first | refine blk_drewN ?_ _ | refine blk_drew ?_ | refine blk_alloc ?_ _)); exact BKg1.out)⟩, ⟨(by repeat (first | (with_reducible first | exact HB.out | apply below_alloc | apply pw_below_drewN | apply below_drew1) | exact HB.out))⟩⟩
              · exact absurd HH.out (by rw [if_neg c103]; simp)
            · have H := HH.out
              rw [if_neg c102] at H
              replace HH := Aside0.mk H
              clear H
              replace c102 := Bool.eq_false_iff.mpr c102
              subst c102
              have H := HH.out
              simp only [Option.some.injEq, Prod.mk.injEq] at H
              obtain ⟨rfl, rfl⟩ := H
              clear HH
              go_wp2
              go_ret2
              exact ⟨_, by first | rfl | (simp; done) | (simp [*]; done), (Kd.N_nil _ _ _ _ _), (by repeat (first | (with_reducible first | exact HB.out | apply below_alloc | apply pw_below_drewN | apply below_drew1) | exact HB.out))⟩
          · exact absurd HH.out (by rw [if_neg c33]; simp)
        · have H := HH.out
          rw [if_neg c30] at H
          replace HH := Aside0.mk H
          clear H
          have hk129 : (x17 < (l0_4.length : Int)) = False := eq_false c30
          have hk130 : decide (x17 < (l0_4.length : Int)) = false := decide_eq_false c30
          clear c30
          have H := HH.out
          simp only [Option.some.injEq, Prod.mk.injEq] at H
          obtain ⟨rfl, rfl⟩ := H
          clear HH
          go_wp2
          go_ret2
          exact ⟨_, by first | rfl | (simp; done) | (simp [*]; done), (Kd.N_mono (ok := (fun k_ => (P_ k_ ∨ w.heap.size ≤ k_) ∧ k_ ≠ g1)) (by (with_reducible repeat (first | apply Kd.N_alloc | apply Kd.N_drewN | apply Kd.N_drew)); exact HN16.out) (fun k_ hk_ => hk_.1)), (by repeat (first | (with_reducible first | exact HB.out | apply below_alloc | apply pw_below_drewN | apply below_drew1) | exact HB.out))⟩
  · have H := HH.out
    rw [if_neg c13] at H
    replace HH := Aside0.mk H
    clear H
    replace c13 := Bool.eq_false_iff.mpr c13
    subst c13
    have H := HH.out
    simp only [Option.some.injEq, Prod.mk.injEq] at H
    obtain ⟨rfl, rfl⟩ := H
    clear HH
    go_wp2
    go_ret2
    exact ⟨_, by first | rfl | (simp; done) | (simp [*]; done), (Kd.N_nil _ _ _ _ _), (by repeat (first | (with_reducible first | exact HB.out | apply below_alloc | apply pw_below_drewN | apply below_drew1) | exact HB.out))⟩

end Go.Proofs.Ytliackbiljhioaa.GA
