-- written by wip/gen.py, a program of this session
import Derived.Test.YtliackbiljhioaaGA0
import Derived.Test.YtliackbiljhioaaGA15
namespace Go.Proofs.Ytliackbiljhioaa.GA
open Go.RowKit Go.Proofs.Ytliackbiljhioaa Go.Proofs.Ytliackbiljhioaa.MW Go.Proofs.YtliackbiljhioaaW.PrintWords Go.Proofs.YtliackbiljhioaaW.PrintLast Go.Proofs.YtliackbiljhioaaW.PrintMore
attribute [local go_sem] max2_int min2_int max_two min_two
set_option linter.unusedVariables false
set_option linter.unusedSimpArgs false

/-! ### toponymref16_AsInt: function 21 -/
def toponymref16_AsInt.l0 : Nat → Int → Int → Int → ByteArray → Option (Int × Int)
  | 0, _, _, _, _ => none
  | k + 1, x31, x32, x33, a0_3 => if x33 < (a0_3.size : Int) then (if 0 ≤ x33 then ((toponymref16_AsInt.l0 k (wrap64 ((wrap64 (256 * x31)) + (wrap64 (bt a0_3 x33)))) (wrap64 (256 * x32)) (wrap64 (x33 + 1)) a0_3)) else (none)) else (if 0 < (a0_3.size : Int) then (if (bt a0_3 0) > 127 then ((toponymref16_Bytes.f k (wrap64 (x31 - x32))).bind fun t63 => (if t63.toList = a0_3.toList then (some (wrap64 (x31 - x32), 0)) else (some (0, 160)))) else ((toponymref16_Bytes.f k x31).bind fun t82 => (if t82.toList = a0_3.toList then (some (x31, 0)) else (some (0, 160))))) else (none))
def toponymref16_AsInt.f (k : Nat) (a0_0 : Int) (a0_1 : Bool) (a0_2 : Int) (a0_3 : ByteArray) (l0_4 : List (S28)) : Option (Int × Int) := if a0_1 = true then (some (0, 160)) else (if (l0_4.length : Int) > 0 then (some (0, 160)) else (if (a0_3.size : Int) < 1 then (some (0, 160)) else (if (a0_3.size : Int) > 4 then (some (0, 160)) else ((toponymref16_AsInt.l0 k 0 1 0 a0_3)))))
theorem toponymref16_AsInt.mono_l : ∀ k, (∀ y0 y1 y2 y3, LeO (toponymref16_AsInt.l0 k y0 y1 y2 y3) (toponymref16_AsInt.l0 (k + 1) y0 y1 y2 y3))
  | 0 => fun _ _ _ _ r h => by simp [toponymref16_AsInt.l0] at h
  | k + 1 => by
    have ih0 := toponymref16_AsInt.mono_l k
    · intro y0 y1 y2 y3
      unfold toponymref16_AsInt.l0
      repeat' first
      | (with_reducible exact ih0 _ _ _ _)
      | (with_reducible exact toponymref16_Bytes.mono _ _)
      | (with_reducible exact LeO.refl _)
      | (with_reducible exact LeO.none _)
      | (with_reducible refine LeO.ite ?_ ?_)
      | (with_reducible refine LeO.bind ?_ (fun _ => ?_))
      | exact ih0 _ _ _ _
      | exact toponymref16_Bytes.mono _ _
      | exact LeO.none _
      | refine LeO.ite ?_ ?_
      | refine LeO.bind ?_ (fun _ => ?_)
theorem toponymref16_AsInt.mono : ∀ a0_ a1_ a2_ a3_ a4_ k, LeO (toponymref16_AsInt.f k a0_ a1_ a2_ a3_ a4_) (toponymref16_AsInt.f (k + 1) a0_ a1_ a2_ a3_ a4_) := by
  intro a0_ a1_ a2_ a3_ a4_ k
  have ih0 := toponymref16_AsInt.mono_l k
  unfold toponymref16_AsInt.f
  repeat' first
      | (with_reducible exact ih0 _ _ _ _)
      | (with_reducible exact toponymref16_Bytes.mono _ _)
      | (with_reducible exact LeO.refl _)
      | (with_reducible exact LeO.none _)
      | (with_reducible refine LeO.ite ?_ ?_)
      | (with_reducible refine LeO.bind ?_ (fun _ => ?_))
      | exact ih0 _ _ _ _
      | exact toponymref16_Bytes.mono _ _
      | exact LeO.none _
      | refine LeO.ite ?_ ?_
      | refine LeO.bind ?_ (fun _ => ?_)
set_option maxHeartbeats 8000000 in
set_option maxRecDepth 100000 in
theorem toponymref16_AsInt.calls (k : Nat) (P_ : Nat → Prop) (a0_0 : Int) (a0_1 : Bool) (a0_2 : Int) (a0_3 : ByteArray) (A0_4 : Option Addr) (c0_4 : Nat) (l0_4 : List (S28)) (r1 : Int) (r2 : Int) (w : World) (hs0_4 : Kd.F k28 w P_ A0_4 l0_4.length l0_4) (hc0_4 : l0_4.length ≤ c0_4) (h : toponymref16_AsInt.f k a0_0 a0_1 a0_2 a0_3 l0_4 = some (r1, r2)) :
    Calls Try.prog 21 #[.agg #[.int .i64 a0_0, .bool a0_1, .int .i64 a0_2, .string a0_3, .slice A0_4 l0_4.length c0_4]] w fun e w' => e = .returned (.tuple #[.int .i64 r1, .int .i64 r2]) ∧ Below w.heap.size w w' := by
  have HH := Aside0.mk (show (if a0_1 = true then (some (0, 160)) else (if (l0_4.length : Int) > 0 then (some (0, 160)) else (if (a0_3.size : Int) < 1 then (some (0, 160)) else (if (a0_3.size : Int) > 4 then (some (0, 160)) else ((toponymref16_AsInt.l0 k 0 1 0 a0_3)))))) = some (r1, r2) from h)
  clear h
  have HF0_4 := Aside0.mk (Kd.F_mono hs0_4 (fun k_ hk_ => (.inl hk_ : P_ k_ ∨ w.heap.size ≤ k_)))
  have HL0_4 := Aside0.mk hc0_4
  clear hs0_4 hc0_4
  have HB := Aside0.mk (Below.refl w.heap.size w)
  have hu28 := Try.underlying28
  go_enter Try.func21, Try.ntmps21
  go_wp2_with (((with_reducible refine gate_dst (N := 1) rfl ?_); (try (refine gate_guard (by rfl) ?_; dsimp only)); refine box_event ?hg (N := 1) ?hd (cs := #[.int .i64 a0_0, .bool a0_1, .int .i64 a0_2, .string a0_3, .slice A0_4 l0_4.length c0_4]) (t := 28) ?hr ?_; (case hd => rfl); (case hg => rfl); (case hr => first | (go_simp; done) | (go_simp; rfl)); intro g1 hg w2 hbox hb); replace hg := Aside0.mk hg; replace hbox := Aside0.mk hbox; refine stop_ ?_)
  refine Stop.go ?_
  replace hg := hg.out
  replace hbox := hbox.out
  have GEg1 := Aside0.mk (by rw [hg]; exact (below_size (by repeat (first | (with_reducible first | exact HB.out | apply below_alloc | apply pw_below_drewN | apply below_drew1) | exact HB.out))) : w.heap.size ≤ g1)
  replace HF0_4 := Aside0.mk (Kd.F_elderB (by (with_reducible repeat (first | apply Kd.F_alloc | apply Kd.F_drewN | apply Kd.F_drew)); exact HF0_4.out) g1 (Nat.le_of_eq hg.symm))
  replace HF0_4 := Aside0.mk (Kd.F_mono HF0_4.out (fun k_ hk_ => ⟨hk_.1, hk_.2⟩) : Kd.F k28 _ (fun k_ => (P_ k_ ∨ w.heap.size ≤ k_) ∧ k_ ≠ g1) _ _ _)
  replace HF0_4 := Aside0.mk (Kd.F_below (by (with_reducible repeat (first | apply Kd.F_alloc | apply Kd.F_drewN | apply Kd.F_drew)); exact HF0_4.out) hb)
  replace HB := Aside0.mk (below_step (by repeat (first | (with_reducible first | exact HB.out | apply below_alloc | apply pw_below_drewN | apply below_drew1) | exact HB.out)) hb)
  have BKg1 := Aside0.mk hbox
  clear hg hbox hb
  have hz3 : w2.cell? ⟨g1, 0, none⟩ = some (.int .i64 a0_0) := (blk_cell BKg1.out 0).trans rfl
  have hz4 : w2.cell? ⟨g1, 1, none⟩ = some (.bool a0_1) := (blk_cell BKg1.out 1).trans rfl
  have hz5 : w2.cell? ⟨g1, 2, none⟩ = some (.int .i64 a0_2) := (blk_cell BKg1.out 2).trans rfl
  have hz6 : w2.cell? ⟨g1, 3, none⟩ = some (.string a0_3) := (blk_cell BKg1.out 3).trans rfl
  have hz7 : w2.cell? ⟨g1, 4, none⟩ = some (.slice A0_4 l0_4.length c0_4) := (blk_cell BKg1.out 4).trans rfl
  have hf8 := blk_frozen BKg1.out 0
  have hf9 := blk_frozen BKg1.out 1
  have hf10 := blk_frozen BKg1.out 2
  have hf11 := blk_frozen BKg1.out 3
  have hf12 := blk_frozen BKg1.out 4
  by_cases c13 : a0_1 = true
  · have H := HH.out
    rw [if_pos c13] at H
    replace HH := Aside0.mk H
    clear H
    subst c13
    have H := HH.out
    simp only [Option.some.injEq, Prod.mk.injEq] at H
    obtain ⟨rfl, rfl⟩ := H
    clear HH
    go_wp2
    go_ret2
    exact ⟨by first | rfl | (simp; done) | (simp [*]; done), (by repeat (first | (with_reducible first | exact HB.out | apply below_alloc | apply pw_below_drewN | apply below_drew1) | exact HB.out))⟩
  · have H := HH.out
    rw [if_neg c13] at H
    replace HH := Aside0.mk H
    clear H
    replace c13 := Bool.eq_false_iff.mpr c13
    subst c13
    by_cases c14 : (l0_4.length : Int) > 0
    · have H := HH.out
      rw [if_pos c14] at H
      replace HH := Aside0.mk H
      clear H
      have hk15 : decide (0 < (l0_4.length : Int)) = true := decide_eq_true c14
      have hk16 : decide (0 < l0_4.length) = true := decide_eq_true (by omega)
      clear c14
      have H := HH.out
      simp only [Option.some.injEq, Prod.mk.injEq] at H
      obtain ⟨rfl, rfl⟩ := H
      clear HH
      go_wp2
      go_ret2
      exact ⟨by first | rfl | (simp; done) | (simp [*]; done), (by repeat (first | (with_reducible first | exact HB.out | apply below_alloc | apply pw_below_drewN | apply below_drew1) | exact HB.out))⟩
    · have H := HH.out
      rw [if_neg c14] at H
      replace HH := Aside0.mk H
      clear H
      have hk17 : decide (0 < (l0_4.length : Int)) = false := decide_eq_false c14
      have hk18 : decide (0 < l0_4.length) = false := decide_eq_false (by omega)
      clear c14
      by_cases c19 : (a0_3.size : Int) < 1
      · have H := HH.out
        rw [if_pos c19] at H
        replace HH := Aside0.mk H
        clear H
        have hk20 : ((a0_3.size : Int) < 1) = True := eq_true c19
        have hk21 : decide ((a0_3.size : Int) < 1) = true := decide_eq_true c19
        have hk22 : decide (a0_3.size < 1) = true := decide_eq_true (by omega)
        clear c19
        have H := HH.out
        simp only [Option.some.injEq, Prod.mk.injEq] at H
        obtain ⟨rfl, rfl⟩ := H
        clear HH
        go_wp2
        go_ret2
        exact ⟨by first | rfl | (simp; done) | (simp [*]; done), (by repeat (first | (with_reducible first | exact HB.out | apply below_alloc | apply pw_below_drewN | apply below_drew1) | exact HB.out))⟩
      · have H := HH.out
        rw [if_neg c19] at H
        replace HH := Aside0.mk H
        clear H
        have hk23 : ((a0_3.size : Int) < 1) = False := eq_false c19
        have hk24 : decide ((a0_3.size : Int) < 1) = false := decide_eq_false c19
        have hk25 : decide (a0_3.size < 1) = false := decide_eq_false (by omega)
        clear c19
        by_cases c26 : (a0_3.size : Int) > 4
        · have H := HH.out
          rw [if_pos c26] at H
          replace HH := Aside0.mk H
          clear H
          have hk27 : decide (4 < (a0_3.size : Int)) = true := decide_eq_true c26
          have hk28 : decide (4 < a0_3.size) = true := decide_eq_true (by omega)
          clear c26
          have H := HH.out
          simp only [Option.some.injEq, Prod.mk.injEq] at H
          obtain ⟨rfl, rfl⟩ := H
          clear HH
          go_wp2
          go_ret2
          exact ⟨by first | rfl | (simp; done) | (simp [*]; done), (by repeat (first | (with_reducible first | exact HB.out | apply below_alloc | apply pw_below_drewN | apply below_drew1) | exact HB.out))⟩
        · have H := HH.out
          rw [if_neg c26] at H
          replace HH := Aside0.mk H
          clear H
          have hk29 : decide (4 < (a0_3.size : Int)) = false := decide_eq_false c26
          have hk30 : decide (4 < a0_3.size) = false := decide_eq_false (by omega)
          clear c26
          go_wp2
          go_loopg [5, 6, 7] k (fun kq u5 u6 u7 w' => ∃ (x31 : Int) (x32 : Int) (x33 : Int), u5 = .int .i64 x31 ∧ u6 = .int .i64 x32 ∧ u7 = .int .i64 x33 ∧ Aside0 ((toponymref16_AsInt.l0 kq x31 x32 x33 a0_3) = some (r1, r2)) ∧ Aside0 (kq ≤ k) ∧ Aside0 (Kd.F k28 w' (fun k_ => (P_ k_ ∨ w.heap.size ≤ k_) ∧ k_ ≠ g1) A0_4 l0_4.length l0_4) ∧ Aside0 (w'.heap[g1]? = some (.cells #[.int .i64 a0_0, .bool false, .int .i64 a0_2, .string a0_3, .slice A0_4 l0_4.length c0_4] 28 (0, 0))) ∧ Aside0 (Below w.heap.size w w'))
          case atStart => exact ⟨0, 1, 0, (by first | rfl | (simp; done) | (simp [*]; done)), (by first | rfl | (simp; done) | (simp [*]; done)), (by first | rfl | (simp; done) | (simp [*]; done)), HH, ⟨Nat.le_refl _⟩, ⟨(Kd.F_mono (ok := (fun k_ => (P_ k_ ∨ w.heap.size ≤ k_) ∧ k_ ≠ g1)) (by (with_reducible repeat (first | apply Kd.F_alloc | apply Kd.F_drewN | apply Kd.F_drew)); exact HF0_4.out) (fun k_ hk_ => ⟨hk_.1, hk_.2⟩))⟩, ⟨(by (with_reducible repeat (first | refine blk_drewN ?_ _ | refine blk_drew ?_ | refine blk_alloc ?_ _)); exact BKg1.out)⟩, ⟨(by repeat (first | (with_reducible first | exact HB.out | apply below_alloc | apply pw_below_drewN | apply below_drew1) | exact HB.out))⟩⟩
          case round =>
            clear hz3 hz4 hz5 hz6 hz7 hf8 hf9 hf10 hf11 hf12
            clear hk17
            clear hk18
            clear hk23
            clear hk24
            clear hk25
            clear hk29
            clear hk30
            clear HH
            clear HF0_4 BKg1 HB
            obtain ⟨x31, x32, x33, rfl, rfl, rfl, HA, HK0, HF0_4, BKg1, HB⟩ := hrel
            obtain ⟨w35, rfl⟩ : ∃ wo_ : World, wo_ = wr := ⟨_, rfl⟩
            cases gk with
            | zero => exact absurd HA.out (by simp [toponymref16_AsInt.l0])
            | succ k34 =>
              have H := HA.out
              clear HA
              simp only [toponymref16_AsInt.l0] at H
              have HH := Aside0.mk H
              clear H
              have hz36 : w35.cell? ⟨g1, 0, none⟩ = some (.int .i64 a0_0) := (blk_cell BKg1.out 0).trans rfl
              have hz37 : w35.cell? ⟨g1, 1, none⟩ = some (.bool false) := (blk_cell BKg1.out 1).trans rfl
              have hz38 : w35.cell? ⟨g1, 2, none⟩ = some (.int .i64 a0_2) := (blk_cell BKg1.out 2).trans rfl
              have hz39 : w35.cell? ⟨g1, 3, none⟩ = some (.string a0_3) := (blk_cell BKg1.out 3).trans rfl
              have hz40 : w35.cell? ⟨g1, 4, none⟩ = some (.slice A0_4 l0_4.length c0_4) := (blk_cell BKg1.out 4).trans rfl
              have hf41 := blk_frozen BKg1.out 0
              have hf42 := blk_frozen BKg1.out 1
              have hf43 := blk_frozen BKg1.out 2
              have hf44 := blk_frozen BKg1.out 3
              have hf45 := blk_frozen BKg1.out 4
              by_cases c46 : x33 < (a0_3.size : Int)
              · have H := HH.out
                rw [if_pos c46] at H
                replace HH := Aside0.mk H
                clear H
                have hk47 : (x33 < (a0_3.size : Int)) = True := eq_true c46
                have hk48 : decide (x33 < (a0_3.size : Int)) = true := decide_eq_true c46
                clear c46
                by_cases c49 : 0 ≤ x33
                · have H := HH.out
                  rw [if_pos c49] at H
                  replace HH := Aside0.mk H
                  clear H
                  have hk50 : decide (0 ≤ x33) = true := decide_eq_true c49
                  clear c49
                  have p51 : 0 ≤ (x33 : Int) := of_decide_eq_true (by first | (with_reducible assumption) | assumption)
                  have q51 : x33 < (a0_3.size : Int) := of_decide_eq_true (by first | (with_reducible assumption) | assumption)
                  have hx51 := MW.bt_at' a0_3 x33
                  replace p51 := eq_true p51
                  replace q51 := eq_true q51
                  go_wp2
                  go_roundg k34
                  case measure => have := HK0.out; omega
                  case rel => exact ⟨wrap64 ((wrap64 (256 * x31)) + (wrap64 (bt a0_3 x33))), wrap64 (256 * x32), wrap64 (x33 + 1), (by first | rfl | (simp; done) | (simp [*]; done)), (by first | rfl | (simp; done) | (simp [*]; done)), (by first | rfl | (simp; done) | (simp [*]; done)), HH, ⟨by have := HK0.out; omega⟩, ⟨(Kd.F_mono (ok := (fun k_ => (P_ k_ ∨ w.heap.size ≤ k_) ∧ k_ ≠ g1)) (by (with_reducible repeat (first | apply Kd.F_alloc | apply Kd.F_drewN | apply Kd.F_drew)); exact HF0_4.out) (fun k_ hk_ => ⟨hk_.1, hk_.2⟩))⟩, ⟨(by (with_reducible repeat (first | refine blk_drewN ?_ _ | refine blk_drew ?_ | refine blk_alloc ?_ _)); exact BKg1.out)⟩, ⟨(by repeat (first | (with_reducible first | exact HB.out | apply below_alloc | apply pw_below_drewN | apply below_drew1) | exact HB.out))⟩⟩
                · exact absurd HH.out (by rw [if_neg c49]; simp)
              · have H := HH.out
                rw [if_neg c46] at H
                replace HH := Aside0.mk H
                clear H
                have hk53 : (x33 < (a0_3.size : Int)) = False := eq_false c46
                have hk54 : decide (x33 < (a0_3.size : Int)) = false := decide_eq_false c46
                clear c46
                by_cases c55 : 0 < (a0_3.size : Int)
                · have H := HH.out
                  rw [if_pos c55] at H
                  replace HH := Aside0.mk H
                  clear H
                  have hk56 : (0 < (a0_3.size : Int)) = True := eq_true c55
                  have hk57 : (0 < a0_3.size) = True := eq_true (by have := c55; omega)
                  have hk58 : decide (0 < (a0_3.size : Int)) = true := decide_eq_true c55
                  have hk59 : decide (0 < a0_3.size) = true := decide_eq_true (by omega)
                  clear c55
                  have p60 : 0 ≤ (0 : Int) := (by omega)
                  have q60 : 0 < a0_3.size := (by have : (0 : Int) < (a0_3.size : Int) := of_decide_eq_true (by first | (with_reducible assumption) | assumption); omega)
                  have hx60 : ∀ h : 0 < a0_3.size, ((a0_3[0]'h).toNat : Int) = bt a0_3 0 := MW.bt_at' a0_3 0
                  clear p60
                  have qi60 : (0 < (a0_3.size : Int)) = True := eq_true (of_decide_eq_true (by first | (with_reducible assumption) | assumption))
                  replace q60 := eq_true q60
                  by_cases c61 : (bt a0_3 0) > 127
                  · have H := HH.out
                    rw [if_pos c61] at H
                    replace HH := Aside0.mk H
                    clear H
                    have hk62 : decide (127 < (bt a0_3 0)) = true := decide_eq_true c61
                    clear c61
                    have H := HH.out
                    replace H := Option.bind_eq_some_iff.mp H
                    obtain ⟨t63, at_, H⟩ := H
                    have At64 := Aside0.mk at_
                    clear at_
                    replace HH := Aside0.mk (show (if t63.toList = a0_3.toList then (some (wrap64 (x31 - x32), 0)) else (some (0, 160))) = some (r1, r2) from H)
                    clear H
                    go_wp2_with (((with_reducible refine gate_callee (f := 37) rfl ?_); (try (refine gate_guard (by rfl) ?_; dsimp only)); refine goesL_ (some 50) rfl rfl Try.func37 (by kernel_rfl) rfl #[.int .i64 (wrap64 (x31 - x32))] rfl (by (try simp only [List.map_toArray, List.map_cons, List.map_nil]); first | done | rfl | (simp only [List.length_drop, List.length_take]; rfl)) ?_; (with_reducible refine (toponymref16_Bytes.calls k34  (wrap64 (x31 - x32)) t63 _  At64.out).mono ?_); rintro e w65 ⟨rfl, hb⟩; refine ⟨_, rfl, ?_⟩); refine stop_ ?_)
                    refine Stop.go ?_
                    replace HF0_4 := Aside0.mk (Kd.F_below (by (with_reducible repeat (first | apply Kd.F_alloc | apply Kd.F_drewN | apply Kd.F_drew)); exact HF0_4.out) hb)
                    replace BKg1 := Aside0.mk (blk_below (o := .cells #[.int .i64 a0_0, .bool false, .int .i64 a0_2, .string a0_3, .slice A0_4 l0_4.length c0_4] 28 (0, 0)) (by (with_reducible repeat (first | refine blk_drewN ?_ _ | refine blk_drew ?_ | refine blk_alloc ?_ _)); exact BKg1.out) hb)
                    replace HB := Aside0.mk (below_step (by repeat (first | (with_reducible first | exact HB.out | apply below_alloc | apply pw_below_drewN | apply below_drew1) | exact HB.out)) hb)
                    clear hb
                    clear hz36 hz37 hz38 hz39 hz40 hf41 hf42 hf43 hf44 hf45
                    have hz66 : w65.cell? ⟨g1, 0, none⟩ = some (.int .i64 a0_0) := (blk_cell BKg1.out 0).trans rfl
                    have hz67 : w65.cell? ⟨g1, 1, none⟩ = some (.bool false) := (blk_cell BKg1.out 1).trans rfl
                    have hz68 : w65.cell? ⟨g1, 2, none⟩ = some (.int .i64 a0_2) := (blk_cell BKg1.out 2).trans rfl
                    have hz69 : w65.cell? ⟨g1, 3, none⟩ = some (.string a0_3) := (blk_cell BKg1.out 3).trans rfl
                    have hz70 : w65.cell? ⟨g1, 4, none⟩ = some (.slice A0_4 l0_4.length c0_4) := (blk_cell BKg1.out 4).trans rfl
                    have hf71 := blk_frozen BKg1.out 0
                    have hf72 := blk_frozen BKg1.out 1
                    have hf73 := blk_frozen BKg1.out 2
                    have hf74 := blk_frozen BKg1.out 3
                    have hf75 := blk_frozen BKg1.out 4
                    by_cases c76 : t63.toList = a0_3.toList
                    · have H := HH.out
                      rw [if_pos c76] at H
                      replace HH := Aside0.mk H
                      clear H
                      have hk77 : (t63.toList == a0_3.toList) = true := beq_iff_eq.mpr c76
                      have hk78 : (t63.toList != a0_3.toList) = false := bne_eq_false_iff_eq.mpr c76
                      clear c76
                      have H := HH.out
                      simp only [Option.some.injEq, Prod.mk.injEq] at H
                      obtain ⟨rfl, rfl⟩ := H
                      clear HH
                      go_wp2
                      go_ret2
                      exact ⟨by first | rfl | (simp; done) | (simp [*]; done), (by repeat (first | (with_reducible first | exact HB.out | apply below_alloc | apply pw_below_drewN | apply below_drew1) | exact HB.out))⟩
                    · have H := HH.out
                      rw [if_neg c76] at H
                      replace HH := Aside0.mk H
                      clear H
                      have hk79 : (t63.toList == a0_3.toList) = false := beq_eq_false_iff_ne.mpr c76
                      have hk80 : (t63.toList != a0_3.toList) = true := bne_iff_ne.mpr c76
                      clear c76
                      have H := HH.out
                      simp only [Option.some.injEq, Prod.mk.injEq] at H
                      obtain ⟨rfl, rfl⟩ := H
                      clear HH
                      go_wp2
                      go_ret2
                      exact ⟨by first | rfl | (simp; done) | (simp [*]; done), (by repeat (first | (with_reducible first | exact HB.out | apply below_alloc | apply pw_below_drewN | apply below_drew1) | exact HB.out))⟩
                  · have H := HH.out
                    rw [if_neg c61] at H
                    replace HH := Aside0.mk H
                    clear H
                    have hk81 : decide (127 < (bt a0_3 0)) = false := decide_eq_false c61
                    clear c61
                    have H := HH.out
                    replace H := Option.bind_eq_some_iff.mp H
                    obtain ⟨t82, at_, H⟩ := H
                    have At83 := Aside0.mk at_
                    clear at_
                    replace HH := Aside0.mk (show (if t82.toList = a0_3.toList then (some (x31, 0)) else (some (0, 160))) = some (r1, r2) from H)
                    clear H
                    go_wp2_with (((with_reducible refine gate_callee (f := 37) rfl ?_); (try (refine gate_guard (by rfl) ?_; dsimp only)); refine goesL_ (some 50) rfl rfl Try.func37 (by kernel_rfl) rfl #[.int .i64 x31] rfl (by (try simp only [List.map_toArray, List.map_cons, List.map_nil]); first | done | rfl | (simp only [List.length_drop, List.length_take]; rfl)) ?_; (with_reducible refine (toponymref16_Bytes.calls k34  x31 t82 _  At83.out).mono ?_); rintro e w84 ⟨rfl, hb⟩; refine ⟨_, rfl, ?_⟩); refine stop_ ?_)
                    refine Stop.go ?_
                    replace HF0_4 := Aside0.mk (Kd.F_below (by (with_reducible repeat (first | apply Kd.F_alloc | apply Kd.F_drewN | apply Kd.F_drew)); exact HF0_4.out) hb)
                    replace BKg1 := Aside0.mk (blk_below (o := .cells #[.int .i64 a0_0, .bool false, .int .i64 a0_2, .string a0_3, .slice A0_4 l0_4.length c0_4] 28 (0, 0)) (by (with_reducible repeat (first | refine blk_drewN ?_ _ | refine blk_drew ?_ | refine blk_alloc ?_ _)); exact BKg1.out) hb)
                    replace HB := Aside0.mk (below_step (by repeat (first | (with_reducible first | exact HB.out | apply below_alloc | apply pw_below_drewN | apply below_drew1) | exact HB.out)) hb)
                    clear hb
                    clear hz36 hz37 hz38 hz39 hz40 hf41 hf42 hf43 hf44 hf45
                    have hz85 : w84.cell? ⟨g1, 0, none⟩ = some (.int .i64 a0_0) := (blk_cell BKg1.out 0).trans rfl
                    have hz86 : w84.cell? ⟨g1, 1, none⟩ = some (.bool false) := (blk_cell BKg1.out 1).trans rfl
                    have hz87 : w84.cell? ⟨g1, 2, none⟩ = some (.int .i64 a0_2) := (blk_cell BKg1.out 2).trans rfl
                    have hz88 : w84.cell? ⟨g1, 3, none⟩ = some (.string a0_3) := (blk_cell BKg1.out 3).trans rfl
                    have hz89 : w84.cell? ⟨g1, 4, none⟩ = some (.slice A0_4 l0_4.length c0_4) := (blk_cell BKg1.out 4).trans rfl
                    have hf90 := blk_frozen BKg1.out 0
                    have hf91 := blk_frozen BKg1.out 1
                    have hf92 := blk_frozen BKg1.out 2
                    have hf93 := blk_frozen BKg1.out 3
                    have hf94 := blk_frozen BKg1.out 4
                    by_cases c95 : t82.toList = a0_3.toList
                    · have H := HH.out
                      rw [if_pos c95] at H
                      replace HH := Aside0.mk H
                      clear H
                      have hk96 : (t82.toList == a0_3.toList) = true := beq_iff_eq.mpr c95
                      have hk97 : (t82.toList != a0_3.toList) = false := bne_eq_false_iff_eq.mpr c95
                      clear c95
                      have H := HH.out
                      simp only [Option.some.injEq, Prod.mk.injEq] at H
                      obtain ⟨rfl, rfl⟩ := H
                      clear HH
                      go_wp2
                      go_ret2
                      exact ⟨by first | rfl | (simp; done) | (simp [*]; done), (by repeat (first | (with_reducible first | exact HB.out | apply below_alloc | apply pw_below_drewN | apply below_drew1) | exact HB.out))⟩
                    · have H := HH.out
                      rw [if_neg c95] at H
                      replace HH := Aside0.mk H
                      clear H
                      have hk98 : (t82.toList == a0_3.toList) = false := beq_eq_false_iff_ne.mpr c95
                      have hk99 : (t82.toList != a0_3.toList) = true := bne_iff_ne.mpr c95
                      clear c95
                      have H := HH.out
                      simp only [Option.some.injEq, Prod.mk.injEq] at H
                      obtain ⟨rfl, rfl⟩ := H
                      clear HH
                      go_wp2
                      go_ret2
                      exact ⟨by first | rfl | (simp; done) | (simp [*]; done), (by repeat (first | (with_reducible first | exact HB.out | apply below_alloc | apply pw_below_drewN | apply below_drew1) | exact HB.out))⟩
                · exact absurd HH.out (by rw [if_neg c55]; simp)

end Go.Proofs.Ytliackbiljhioaa.GA
