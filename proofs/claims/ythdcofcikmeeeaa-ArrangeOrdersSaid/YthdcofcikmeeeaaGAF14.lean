-- written by wip/gen.py, a program of this session
import Derived.Test.YthdcofcikmeeeaaGA0
import Derived.Test.YthdcofcikmeeeaaGAF20
namespace Go.Proofs.Ythdcofcikmeeeaa.GA
open Go.RowKit Go.Proofs.Ythdcofcikmeeeaa Go.Proofs.Ythdcofcikmeeeaa.MW Go.Proofs.YthdcofcikmeeeaaW.PrintWords Go.Proofs.YthdcofcikmeeeaaW.PrintLast Go.Proofs.YthdcofcikmeeeaaW.PrintMore
attribute [local go_sem] max2_int min2_int max_two min_two
set_option linter.unusedVariables false
set_option linter.unusedSimpArgs false

/-! ### toponymref06_Runs: function 14 -/
def toponymref06_Runs.l0 : Nat → (List (List Int)) → (List Int) → Int → (List Int) → Option ((List (List Int)))
  | 0, _, _, _, _ => none
  | k + 1, x1, x4, x7, l0 => if x7 < (l0.length : Int) then (if 0 ≤ x7 then ((toponymref03_Class.f k (rd l0 x7)).bind fun t17 => (if t17 = 0 then (if (x4.length : Int) > 0 then (if x1.length < 5864062014805 then ((some (x1 ++ [x4] : List (List Int))).bind fun y33 => (if ([] : List Int).length < 35184372088832 then ((some (([] : List Int) ++ [rd l0 x7] : List Int)).bind fun y39 => ((toponymref06_Runs.l0 k y33 y39 (wrap64 (x7 + 1)) l0))) else (none))) else (none)) else (if x4.length < 35184372088832 then ((some (x4 ++ [rd l0 x7] : List Int)).bind fun y47 => ((toponymref06_Runs.l0 k x1 y47 (wrap64 (x7 + 1)) l0))) else (none))) else (if x4.length < 35184372088832 then ((some (x4 ++ [rd l0 x7] : List Int)).bind fun y55 => ((toponymref06_Runs.l0 k x1 y55 (wrap64 (x7 + 1)) l0))) else (none)))) else (none)) else (if (x4.length : Int) > 0 then (if x1.length < 5864062014805 then ((some (x1 ++ [x4] : List (List Int))).bind fun y72 => (some y72)) else (none)) else (some x1))
def toponymref06_Runs.f (k : Nat) (l0 : List Int) : Option ((List (List Int))) := (toponymref06_Runs.l0 k ([] : List (List Int)) ([] : List Int) 0 l0)
theorem toponymref06_Runs.mono_l : ∀ k, (∀ y0 y1 y2 y3, LeO (toponymref06_Runs.l0 k y0 y1 y2 y3) (toponymref06_Runs.l0 (k + 1) y0 y1 y2 y3))
  | 0 => fun _ _ _ _ r h => by simp [toponymref06_Runs.l0] at h
  | k + 1 => by
    have ih0 := toponymref06_Runs.mono_l k
    · intro y0 y1 y2 y3
      unfold toponymref06_Runs.l0
      repeat' first
      | (with_reducible exact ih0 _ _ _ _)
      | (with_reducible exact toponymref03_Class.mono _ _)
      | (with_reducible exact LeO.refl _)
      | (with_reducible exact LeO.none _)
      | (with_reducible refine LeO.ite ?_ ?_)
      | (with_reducible refine LeO.bind ?_ (fun _ => ?_))
      | exact ih0 _ _ _ _
      | exact toponymref03_Class.mono _ _
      | exact LeO.none _
      | refine LeO.ite ?_ ?_
      | refine LeO.bind ?_ (fun _ => ?_)
theorem toponymref06_Runs.mono : ∀ a0_ k, LeO (toponymref06_Runs.f k a0_) (toponymref06_Runs.f (k + 1) a0_) := by
  intro a0_ k
  have ih0 := toponymref06_Runs.mono_l k
  unfold toponymref06_Runs.f
  repeat' first
      | (with_reducible exact ih0 _ _ _ _)
      | (with_reducible exact toponymref03_Class.mono _ _)
      | (with_reducible exact LeO.refl _)
      | (with_reducible exact LeO.none _)
      | (with_reducible refine LeO.ite ?_ ?_)
      | (with_reducible refine LeO.bind ?_ (fun _ => ?_))
      | exact ih0 _ _ _ _
      | exact toponymref03_Class.mono _ _
      | exact LeO.none _
      | refine LeO.ite ?_ ?_
      | refine LeO.bind ?_ (fun _ => ?_)
set_option maxHeartbeats 8000000 in
set_option maxRecDepth 100000 in
theorem toponymref06_Runs.calls (k : Nat) (P_ : Nat → Prop) (A0 : Option Addr) (c0 : Nat) (l0 : List Int) (r : List (List Int)) (w : World) (hs0 : Kd.F (Kd.int .i32) w P_ A0 l0.length l0) (hc0 : l0.length ≤ c0) (h : toponymref06_Runs.f k l0 = some r) :
    Calls Try.prog 14 #[.slice A0 l0.length c0] w (fun e w' => ∃ v0_ : Value, e = .returned (v0_) ∧ Kd.N (Kd.slice 21 (Kd.int .i32)) 22 w' w.heap.size (fun k_ => P_ k_ ∨ w.heap.size ≤ k_) v0_ r ∧ Below w.heap.size w w') := by
  have HH := Aside0.mk (show ((toponymref06_Runs.l0 k ([] : List (List Int)) ([] : List Int) 0 l0)) = some r from h)
  clear h
  have HF0 := Aside0.mk (Kd.F_mono hs0 (fun k_ hk_ => (.inl hk_ : P_ k_ ∨ w.heap.size ≤ k_)))
  have HL0 := Aside0.mk hc0
  clear hs0 hc0
  have HB := Aside0.mk (Below.refl w.heap.size w)
  go_enter Try.func14, Try.ntmps14
  go_wp2
  go_loopg [3, 4, 5] k (fun kq u3 u4 u5 w' => ∃ (x1 : List (List Int)) (x4 : List Int) (x7 : Int), u5 = .int .i64 x7 ∧ Aside0 ((toponymref06_Runs.l0 kq x1 x4 x7 l0) = some r) ∧ Aside0 (kq ≤ k) ∧ Aside0 (Kd.F (Kd.int .i32) w' (fun k_ => (P_ k_ ∨ w.heap.size ≤ k_) ∧ some k_ ≠ (u3 : Value).ownBlock ∧ some k_ ≠ (u4 : Value).ownBlock) A0 l0.length l0) ∧ Aside0 (Kd.N (Kd.slice 21 (Kd.int .i32)) 22 w' w.heap.size (fun k_ => (P_ k_ ∨ w.heap.size ≤ k_) ∧ some k_ ≠ (u4 : Value).ownBlock) u3 x1) ∧ Aside0 (Kd.N (Kd.int .i32) 21 w' w.heap.size (fun k_ => (P_ k_ ∨ w.heap.size ≤ k_) ∧ some k_ ≠ (u3 : Value).ownBlock) u4 x4) ∧ Aside0 (Below w.heap.size w w'))
  case atStart => exact ⟨([] : List (List Int)), ([] : List Int), 0, (by first | rfl | (simp; done) | (simp [*]; done)), HH, ⟨Nat.le_refl _⟩, ⟨(Kd.F_mono (ok := (fun k_ => (P_ k_ ∨ w.heap.size ≤ k_))) HF0.out (fun k_ hk_ => ⟨hk_, (by simp [Value.ownBlock]), (by simp [Value.ownBlock])⟩))⟩, ⟨Kd.N_nil _ _ _ _ _⟩, ⟨Kd.N_nil _ _ _ _ _⟩, ⟨HB.out⟩⟩
  case round =>
    clear HH
    clear HF0 HB
    obtain ⟨x1, x4, x7, rfl, HA, HK0, HF0, HN3, HN6, HB⟩ := hrel
    obtain ⟨v2, rfl⟩ : ∃ z_ : Value, z_ = u3 := ⟨_, rfl⟩
    obtain ⟨v5, rfl⟩ : ∃ z_ : Value, z_ = u4 := ⟨_, rfl⟩
    obtain ⟨w9, rfl⟩ : ∃ wo_ : World, wo_ = wr := ⟨_, rfl⟩
    cases gk with
    | zero => exact absurd HA.out (by simp [toponymref06_Runs.l0])
    | succ k10 =>
      have H := HA.out
      clear HA
      simp only [toponymref06_Runs.l0] at H
      have HH := Aside0.mk H
      clear H
      by_cases c11 : x7 < (l0.length : Int)
      · have H := HH.out
        rw [if_pos c11] at H
        replace HH := Aside0.mk H
        clear H
        have hk12 : (x7 < (l0.length : Int)) = True := eq_true c11
        have hk13 : decide (x7 < (l0.length : Int)) = true := decide_eq_true c11
        clear c11
        by_cases c14 : 0 ≤ x7
        · have H := HH.out
          rw [if_pos c14] at H
          replace HH := Aside0.mk H
          clear H
          have hk15 : decide (0 ≤ x7) = true := decide_eq_true c14
          clear c14
          have p16 : 0 ≤ (x7 : Int) := of_decide_eq_true (by first | (with_reducible assumption) | assumption)
          have q16 : x7 < (l0.length : Int) := of_decide_eq_true (by first | (with_reducible assumption) | assumption)
          obtain ⟨ad16, e16, hx16_0⟩ := Kd.at_int (Kd.F_now HF0.out) x7 p16 q16
          cases e16
          replace p16 := eq_true p16
          replace q16 := eq_true q16
          have H := HH.out
          replace H := Option.bind_eq_some_iff.mp H
          obtain ⟨t17, at_, H⟩ := H
          have At18 := Aside0.mk at_
          clear at_
          replace HH := Aside0.mk (show (if t17 = 0 then (if (x4.length : Int) > 0 then (if x1.length < 5864062014805 then ((some (x1 ++ [x4] : List (List Int))).bind fun y33 => (if ([] : List Int).length < 35184372088832 then ((some (([] : List Int) ++ [rd l0 x7] : List Int)).bind fun y39 => ((toponymref06_Runs.l0 k10 y33 y39 (wrap64 (x7 + 1)) l0))) else (none))) else (none)) else (if x4.length < 35184372088832 then ((some (x4 ++ [rd l0 x7] : List Int)).bind fun y47 => ((toponymref06_Runs.l0 k10 x1 y47 (wrap64 (x7 + 1)) l0))) else (none))) else (if x4.length < 35184372088832 then ((some (x4 ++ [rd l0 x7] : List Int)).bind fun y55 => ((toponymref06_Runs.l0 k10 x1 y55 (wrap64 (x7 + 1)) l0))) else (none))) = some r from H)
          clear H
          go_wp2_with (((with_reducible refine gate_callee (f := 20) rfl ?_); (try (refine gate_guard (by rfl) ?_; dsimp only)); refine goesL_ (some 16) rfl rfl Try.func20 (by kernel_rfl) rfl #[.int .i32 (rd l0 x7)] rfl (by (try simp only [List.map_toArray, List.map_cons, List.map_nil]); first | done | rfl | (simp only [List.length_drop, List.length_take]; rfl)) ?_; (with_reducible refine (toponymref03_Class.calls k10  (rd l0 x7) t17 _  At18.out).mono ?_); rintro e w19 ⟨rfl, hb⟩; refine ⟨_, rfl, ?_⟩); refine stop_ ?_)
          refine Stop.go ?_
          replace HF0 := Aside0.mk (Kd.F_below HF0.out hb)
          replace HN3 := Aside0.mk (Kd.N_below HN3.out hb)
          replace HN6 := Aside0.mk (Kd.N_below HN6.out hb)
          replace HB := Aside0.mk (below_step HB.out hb)
          clear hb
          clear hx16_0 p16 q16
          by_cases c20 : t17 = 0
          · have H := HH.out
            rw [if_pos c20] at H
            replace HH := Aside0.mk H
            clear H
            have hk21 : (t17 == 0) = true := beq_iff_eq.mpr c20
            have hk22 : (t17 != 0) = false := bne_eq_false_iff_eq.mpr c20
            clear c20
            obtain ⟨A23, cp24, he_⟩ := Kd.N_slice HN6.out
            subst he_
            by_cases c25 : (x4.length : Int) > 0
            · have H := HH.out
              rw [if_pos c25] at H
              replace HH := Aside0.mk H
              clear H
              have hk26 : decide (0 < (x4.length : Int)) = true := decide_eq_true c25
              have hk27 : decide (0 < x4.length) = true := decide_eq_true (by omega)
              clear c25
              have HL31 := Aside0.mk (Kd.N_reads' HN6.out).2.1
              have HF30 := Aside0.mk (Kd.N_F HN6.out)
              clear HN6
              replace HF0 := Aside0.mk (Kd.F_mono (ok := (fun k_ => (P_ k_ ∨ w.heap.size ≤ k_) ∧ some k_ ≠ (v2 : Value).ownBlock ∧ some k_ ≠ ((.slice A23 x4.length cp24) : Value).ownBlock)) HF0.out (fun k_ hk_ => ⟨hk_.1, hk_.2.1⟩) : Kd.F (Kd.int .i32) _ (fun k_ => (P_ k_ ∨ w.heap.size ≤ k_) ∧ some k_ ≠ (v2 : Value).ownBlock) _ _ _)
              replace HN3 := Aside0.mk (Kd.N_mono (ok := (fun k_ => (P_ k_ ∨ w.heap.size ≤ k_) ∧ some k_ ≠ ((.slice A23 x4.length cp24) : Value).ownBlock)) HN3.out (fun k_ hk_ => hk_.1) : Kd.N (Kd.slice 21 (Kd.int .i32)) _ _ _ (fun k_ => (P_ k_ ∨ w.heap.size ≤ k_)) _ _)
              by_cases c32 : x1.length < 5864062014805
              · have H := HH.out
                rw [if_pos c32] at H
                replace HH := Aside0.mk H
                clear H
                have LMc32 := Aside0.mk c32
                clear c32
                obtain ⟨y33, hy33⟩ : ∃ y_ : List (List Int), y_ = (x1 ++ [x4]) := ⟨_, rfl⟩
                have H : (if ([] : List Int).length < 35184372088832 then ((some (([] : List Int) ++ [rd l0 x7] : List Int)).bind fun y39 => ((toponymref06_Runs.l0 k10 y33 y39 (wrap64 (x7 + 1)) l0))) else (none)) = some r := by rw [hy33]; exact HH.out
                replace HH := Aside0.mk H
                clear H
                have NYy33 := Aside0.mk hy33
                clear hy33
                go_wp2_with (((with_reducible refine gate_dst (N := 26) rfl ?_); (try (refine gate_guard (by rfl) ?_; dsimp only)); refine Kd.N_append (Kd.slice 21 (Kd.int .i32)) w.heap.size rfl _ _ 29 22 (.slice none 0 0) 24 rfl Try.underlying29 info22 rfl (by decide) (by decide) (v2) x1 x4 [.slice A23 x4.length cp24] (fun k_ => (P_ k_ ∨ w.heap.size ≤ k_)) (fun k_ => (fun k_ => (P_ k_ ∨ w.heap.size ≤ k_)) k_ ∧ some k_ ≠ (v2 : Value).ownBlock) rfl rfl (Kd.FK_slice_mk HL31.out (Kd.F_mono (ok := (fun k_ => (P_ k_ ∨ w.heap.size ≤ k_) ∧ some k_ ≠ (v2 : Value).ownBlock)) (by (with_reducible repeat (first | apply Kd.F_alloc | apply Kd.F_drewN | apply Kd.F_drew)); exact HF30.out) (fun k_ hk_ => ⟨hk_.1, hk_.2⟩))) (fun _ hk_ => hk_) (fun k_ h_ => .inr (Nat.le_trans (below_size (by repeat (first | (with_reducible first | exact HB.out | apply below_alloc | apply pw_below_drewN | apply below_drew1) | exact HB.out))) h_)) (by (with_reducible repeat (first | apply Kd.N_alloc | apply Kd.N_drewN | apply Kd.N_drew)); exact HN3.out) (by repeat (first | (with_reducible first | exact HB.out | apply below_alloc | apply pw_below_drewN | apply below_drew1) | exact HB.out)) (below_size (by repeat (first | (with_reducible first | exact HB.out | apply below_alloc | apply pw_below_drewN | apply below_drew1) | exact HB.out))) (by first | (have := LMc32.out; omega) | (have := LMc32.out; simp at *; omega)) ?_; intro v34 w35 hn1 hb1 hg1 hat1); replace hat1 := Aside0.mk hat1; refine stop_ ?_)
                refine Stop.go ?_
                replace hat1 := hat1.out
                replace HF0 := Aside0.mk (Kd.F_mono (Kd.F_after (v := v2) (ok := (fun k_ => (P_ k_ ∨ w.heap.size ≤ k_))) (Kd.F_mono (ok := (fun k_ => (P_ k_ ∨ w.heap.size ≤ k_) ∧ some k_ ≠ (v2 : Value).ownBlock)) (by (with_reducible repeat (first | apply Kd.F_alloc | apply Kd.F_drewN | apply Kd.F_drew)); exact HF0.out) (fun k_ hk_ => ⟨hk_.1, hk_.2⟩)) hg1 hat1) (fun k_ hk_ => ⟨hk_.1, hk_.2⟩) : Kd.F (Kd.int .i32) _ (fun k_ => (P_ k_ ∨ w.heap.size ≤ k_) ∧ some k_ ≠ (v34 : Value).ownBlock) _ _ _)
                replace HF30 := Aside0.mk (Kd.F_mono (Kd.F_after (v := v2) (ok := (fun k_ => (P_ k_ ∨ w.heap.size ≤ k_))) (Kd.F_mono (ok := (fun k_ => (P_ k_ ∨ w.heap.size ≤ k_) ∧ some k_ ≠ (v2 : Value).ownBlock)) (by (with_reducible repeat (first | apply Kd.F_alloc | apply Kd.F_drewN | apply Kd.F_drew)); exact HF30.out) (fun k_ hk_ => ⟨hk_.1, hk_.2⟩)) hg1 hat1) (fun k_ hk_ => ⟨hk_.1, hk_.2⟩) : Kd.F (Kd.int .i32) _ (fun k_ => (P_ k_ ∨ w.heap.size ≤ k_) ∧ some k_ ≠ (v34 : Value).ownBlock) _ _ _)
                replace HB := Aside0.mk hb1
                clear HN3
                have HN36 := Aside0.mk hn1
                clear hn1 hb1 hg1 hat1
                replace HN36 := Aside0.mk (by rw [NYy33.out]; exact HN36.out : Kd.N (Kd.slice 21 (Kd.int .i32)) 22 w35 w.heap.size (fun k_ => (P_ k_ ∨ w.heap.size ≤ k_)) v34 y33)
                have p37 : 0 ≤ (x7 : Int) := of_decide_eq_true (by first | (with_reducible assumption) | assumption)
                have q37 : x7 < (l0.length : Int) := of_decide_eq_true (by first | (with_reducible assumption) | assumption)
                obtain ⟨ad37, e37, hx37_0⟩ := Kd.at_int (Kd.F_now HF0.out) x7 p37 q37
                cases e37
                replace p37 := eq_true p37
                replace q37 := eq_true q37
                by_cases c38 : ([] : List Int).length < 35184372088832
                · have H := HH.out
                  rw [if_pos c38] at H
                  replace HH := Aside0.mk H
                  clear H
                  have LMc38 := Aside0.mk c38
                  clear c38
                  obtain ⟨y39, hy39⟩ : ∃ y_ : List Int, y_ = (([] : List Int) ++ [rd l0 x7]) := ⟨_, rfl⟩
                  have H : ((toponymref06_Runs.l0 k10 y33 y39 (wrap64 (x7 + 1)) l0)) = some r := by rw [hy39]; exact HH.out
                  replace HH := Aside0.mk H
                  clear H
                  have NYy39 := Aside0.mk hy39
                  clear hy39
                  go_wp2_with (((with_reducible refine gate_dst (N := 33) rfl ?_); (try (refine gate_guard (by rfl) ?_; dsimp only)); refine Kd.N_append (Kd.int .i32) w.heap.size rfl _ _ 22 21 (.int .i32 0) 4 rfl Try.underlying22 info21 rfl (by decide) (by decide) (.slice none 0 0) ([] : List Int) (rd l0 x7) [.int .i32 (rd l0 x7)] (fun k_ => (P_ k_ ∨ w.heap.size ≤ k_) ∧ some k_ ≠ (v34 : Value).ownBlock) (fun k_ => (fun k_ => (P_ k_ ∨ w.heap.size ≤ k_) ∧ some k_ ≠ (v34 : Value).ownBlock) k_ ∧ some k_ ≠ (.slice none 0 0 : Value).ownBlock) rfl rfl (fun _ _ => rfl) (fun _ hk_ => hk_) (fun k_ h_ => ⟨.inr (Nat.le_trans (below_size (by repeat (first | (with_reducible first | exact HB.out | apply below_alloc | apply pw_below_drewN | apply below_drew1) | exact HB.out))) h_), Kd.fresh' (Kd.N_lt (by (with_reducible repeat (first | apply Kd.N_alloc | apply Kd.N_drewN | apply Kd.N_drew)); exact HN36.out)) k_ h_⟩) (Kd.N_nil _ _ _ _ _) (by repeat (first | (with_reducible first | exact HB.out | apply below_alloc | apply pw_below_drewN | apply below_drew1) | exact HB.out)) (below_size (by repeat (first | (with_reducible first | exact HB.out | apply below_alloc | apply pw_below_drewN | apply below_drew1) | exact HB.out))) (by first | (have := LMc38.out; omega) | (have := LMc38.out; simp at *; omega)) ?_; intro v40 w41 hn1 hb1 hg1 hat1); replace hat1 := Aside0.mk hat1; refine stop_ ?_)
                  refine Stop.go ?_
                  replace hat1 := hat1.out
                  replace HF0 := Aside0.mk (Kd.F_mono (Kd.F_after (v := .slice none 0 0) (ok := (fun k_ => (P_ k_ ∨ w.heap.size ≤ k_) ∧ some k_ ≠ (v34 : Value).ownBlock)) (Kd.F_mono (ok := (fun k_ => (P_ k_ ∨ w.heap.size ≤ k_) ∧ some k_ ≠ (v34 : Value).ownBlock)) (by (with_reducible repeat (first | apply Kd.F_alloc | apply Kd.F_drewN | apply Kd.F_drew)); exact HF0.out) (fun k_ hk_ => ⟨⟨hk_.1, hk_.2⟩, (by simp [Value.ownBlock])⟩)) hg1 hat1) (fun k_ hk_ => ⟨hk_.1.1, hk_.1.2, hk_.2⟩) : Kd.F (Kd.int .i32) _ (fun k_ => (P_ k_ ∨ w.heap.size ≤ k_) ∧ some k_ ≠ (v34 : Value).ownBlock ∧ some k_ ≠ (v40 : Value).ownBlock) _ _ _)
                  replace HF30 := Aside0.mk (Kd.F_mono (Kd.F_after (v := .slice none 0 0) (ok := (fun k_ => (P_ k_ ∨ w.heap.size ≤ k_) ∧ some k_ ≠ (v34 : Value).ownBlock)) (Kd.F_mono (ok := (fun k_ => (P_ k_ ∨ w.heap.size ≤ k_) ∧ some k_ ≠ (v34 : Value).ownBlock)) (by (with_reducible repeat (first | apply Kd.F_alloc | apply Kd.F_drewN | apply Kd.F_drew)); exact HF30.out) (fun k_ hk_ => ⟨⟨hk_.1, hk_.2⟩, (by simp [Value.ownBlock])⟩)) hg1 hat1) (fun k_ hk_ => ⟨hk_.1.1, hk_.1.2, hk_.2⟩) : Kd.F (Kd.int .i32) _ (fun k_ => (P_ k_ ∨ w.heap.size ≤ k_) ∧ some k_ ≠ (v34 : Value).ownBlock ∧ some k_ ≠ (v40 : Value).ownBlock) _ _ _)
                  replace HN36 := Aside0.mk (Kd.N_mono (Kd.N_after (u := .slice none 0 0) (ok := (fun k_ => (P_ k_ ∨ w.heap.size ≤ k_))) (Kd.N_mono (ok := (fun k_ => (P_ k_ ∨ w.heap.size ≤ k_))) (by (with_reducible repeat (first | apply Kd.N_alloc | apply Kd.N_drewN | apply Kd.N_drew)); exact HN36.out) (fun k_ hk_ => ⟨hk_, (by simp [Value.ownBlock])⟩)) hg1 hat1) (fun k_ hk_ => ⟨hk_.1, hk_.2⟩) : Kd.N (Kd.slice 21 (Kd.int .i32)) _ _ _ (fun k_ => (P_ k_ ∨ w.heap.size ≤ k_) ∧ some k_ ≠ (v40 : Value).ownBlock) _ _)
                  replace HB := Aside0.mk hb1
                  have HN42 := Aside0.mk hn1
                  clear hn1 hb1 hg1 hat1
                  replace HN42 := Aside0.mk (by rw [NYy39.out]; exact HN42.out : Kd.N (Kd.int .i32) 21 w41 w.heap.size (fun k_ => (P_ k_ ∨ w.heap.size ≤ k_) ∧ some k_ ≠ (v34 : Value).ownBlock) v40 y39)
                  clear hx37_0 p37 q37
                  go_wp2
                  go_roundg k10
                  case measure => have := HK0.out; omega
                  case rel => exact ⟨y33, y39, wrap64 (x7 + 1), (by first | rfl | (simp; done) | (simp [*]; done)), HH, ⟨by have := HK0.out; omega⟩, ⟨(Kd.F_mono (ok := (fun k_ => (P_ k_ ∨ w.heap.size ≤ k_) ∧ some k_ ≠ (v34 : Value).ownBlock ∧ some k_ ≠ (v40 : Value).ownBlock)) HF0.out (fun k_ hk_ => ⟨hk_.1, hk_.2.1, hk_.2.2⟩))⟩, ⟨(Kd.N_mono (ok := (fun k_ => (P_ k_ ∨ w.heap.size ≤ k_) ∧ some k_ ≠ (v40 : Value).ownBlock)) HN36.out (fun k_ hk_ => ⟨hk_.1, hk_.2⟩))⟩, ⟨(Kd.N_mono (ok := (fun k_ => (P_ k_ ∨ w.heap.size ≤ k_) ∧ some k_ ≠ (v34 : Value).ownBlock)) HN42.out (fun k_ hk_ => ⟨hk_.1, hk_.2⟩))⟩, ⟨HB.out⟩⟩
                · exact absurd HH.out (by rw [if_neg c38]; simp)
              · exact absurd HH.out (by rw [if_neg c32]; simp)
            · have H := HH.out
              rw [if_neg c25] at H
              replace HH := Aside0.mk H
              clear H
              have hk43 : decide (0 < (x4.length : Int)) = false := decide_eq_false c25
              have hk44 : decide (0 < x4.length) = false := decide_eq_false (by omega)
              clear c25
              have p45 : 0 ≤ (x7 : Int) := of_decide_eq_true (by first | (with_reducible assumption) | assumption)
              have q45 : x7 < (l0.length : Int) := of_decide_eq_true (by first | (with_reducible assumption) | assumption)
              obtain ⟨ad45, e45, hx45_0⟩ := Kd.at_int (Kd.F_now HF0.out) x7 p45 q45
              cases e45
              replace p45 := eq_true p45
              replace q45 := eq_true q45
              by_cases c46 : x4.length < 35184372088832
              · have H := HH.out
                rw [if_pos c46] at H
                replace HH := Aside0.mk H
                clear H
                have LMc46 := Aside0.mk c46
                clear c46
                obtain ⟨y47, hy47⟩ : ∃ y_ : List Int, y_ = (x4 ++ [rd l0 x7]) := ⟨_, rfl⟩
                have H : ((toponymref06_Runs.l0 k10 x1 y47 (wrap64 (x7 + 1)) l0)) = some r := by rw [hy47]; exact HH.out
                replace HH := Aside0.mk H
                clear H
                have NYy47 := Aside0.mk hy47
                clear hy47
                go_wp2_with (((with_reducible refine gate_dst (N := 33) rfl ?_); (try (refine gate_guard (by rfl) ?_; dsimp only)); refine Kd.N_append (Kd.int .i32) w.heap.size rfl _ _ 22 21 (.int .i32 0) 4 rfl Try.underlying22 info21 rfl (by decide) (by decide) ((.slice A23 x4.length cp24)) x4 (rd l0 x7) [.int .i32 (rd l0 x7)] (fun k_ => (P_ k_ ∨ w.heap.size ≤ k_) ∧ some k_ ≠ (v2 : Value).ownBlock) (fun k_ => (fun k_ => (P_ k_ ∨ w.heap.size ≤ k_) ∧ some k_ ≠ (v2 : Value).ownBlock) k_ ∧ some k_ ≠ ((.slice A23 x4.length cp24) : Value).ownBlock) rfl rfl (fun _ _ => rfl) (fun _ hk_ => hk_) (fun k_ h_ => ⟨.inr (Nat.le_trans (below_size (by repeat (first | (with_reducible first | exact HB.out | apply below_alloc | apply pw_below_drewN | apply below_drew1) | exact HB.out))) h_), Kd.fresh' (Kd.N_lt (by (with_reducible repeat (first | apply Kd.N_alloc | apply Kd.N_drewN | apply Kd.N_drew)); exact HN3.out)) k_ h_⟩) (by (with_reducible repeat (first | apply Kd.N_alloc | apply Kd.N_drewN | apply Kd.N_drew)); exact HN6.out) (by repeat (first | (with_reducible first | exact HB.out | apply below_alloc | apply pw_below_drewN | apply below_drew1) | exact HB.out)) (below_size (by repeat (first | (with_reducible first | exact HB.out | apply below_alloc | apply pw_below_drewN | apply below_drew1) | exact HB.out))) (by first | (have := LMc46.out; omega) | (have := LMc46.out; simp at *; omega)) ?_; intro v48 w49 hn1 hb1 hg1 hat1); replace hat1 := Aside0.mk hat1; refine stop_ ?_)
                refine Stop.go ?_
                replace hat1 := hat1.out
                replace HF0 := Aside0.mk (Kd.F_mono (Kd.F_after (v := (.slice A23 x4.length cp24)) (ok := (fun k_ => (P_ k_ ∨ w.heap.size ≤ k_) ∧ some k_ ≠ (v2 : Value).ownBlock)) (Kd.F_mono (ok := (fun k_ => (P_ k_ ∨ w.heap.size ≤ k_) ∧ some k_ ≠ (v2 : Value).ownBlock ∧ some k_ ≠ ((.slice A23 x4.length cp24) : Value).ownBlock)) (by (with_reducible repeat (first | apply Kd.F_alloc | apply Kd.F_drewN | apply Kd.F_drew)); exact HF0.out) (fun k_ hk_ => ⟨⟨hk_.1, hk_.2.1⟩, hk_.2.2⟩)) hg1 hat1) (fun k_ hk_ => ⟨hk_.1.1, hk_.1.2, hk_.2⟩) : Kd.F (Kd.int .i32) _ (fun k_ => (P_ k_ ∨ w.heap.size ≤ k_) ∧ some k_ ≠ (v2 : Value).ownBlock ∧ some k_ ≠ (v48 : Value).ownBlock) _ _ _)
                replace HN3 := Aside0.mk (Kd.N_mono (Kd.N_after (u := (.slice A23 x4.length cp24)) (ok := (fun k_ => (P_ k_ ∨ w.heap.size ≤ k_))) (Kd.N_mono (ok := (fun k_ => (P_ k_ ∨ w.heap.size ≤ k_) ∧ some k_ ≠ ((.slice A23 x4.length cp24) : Value).ownBlock)) (by (with_reducible repeat (first | apply Kd.N_alloc | apply Kd.N_drewN | apply Kd.N_drew)); exact HN3.out) (fun k_ hk_ => ⟨hk_.1, hk_.2⟩)) hg1 hat1) (fun k_ hk_ => ⟨hk_.1, hk_.2⟩) : Kd.N (Kd.slice 21 (Kd.int .i32)) _ _ _ (fun k_ => (P_ k_ ∨ w.heap.size ≤ k_) ∧ some k_ ≠ (v48 : Value).ownBlock) _ _)
                replace HB := Aside0.mk hb1
                clear HN6
                have HN50 := Aside0.mk hn1
                clear hn1 hb1 hg1 hat1
                replace HN50 := Aside0.mk (by rw [NYy47.out]; exact HN50.out : Kd.N (Kd.int .i32) 21 w49 w.heap.size (fun k_ => (P_ k_ ∨ w.heap.size ≤ k_) ∧ some k_ ≠ (v2 : Value).ownBlock) v48 y47)
                clear hx45_0 p45 q45
                go_wp2
                go_roundg k10
                case measure => have := HK0.out; omega
                case rel => exact ⟨x1, y47, wrap64 (x7 + 1), (by first | rfl | (simp; done) | (simp [*]; done)), HH, ⟨by have := HK0.out; omega⟩, ⟨(Kd.F_mono (ok := (fun k_ => (P_ k_ ∨ w.heap.size ≤ k_) ∧ some k_ ≠ (v2 : Value).ownBlock ∧ some k_ ≠ (v48 : Value).ownBlock)) HF0.out (fun k_ hk_ => ⟨hk_.1, hk_.2.1, hk_.2.2⟩))⟩, ⟨(Kd.N_mono (ok := (fun k_ => (P_ k_ ∨ w.heap.size ≤ k_) ∧ some k_ ≠ (v48 : Value).ownBlock)) HN3.out (fun k_ hk_ => ⟨hk_.1, hk_.2⟩))⟩, ⟨(Kd.N_mono (ok := (fun k_ => (P_ k_ ∨ w.heap.size ≤ k_) ∧ some k_ ≠ (v2 : Value).ownBlock)) HN50.out (fun k_ hk_ => ⟨hk_.1, hk_.2⟩))⟩, ⟨HB.out⟩⟩
              · exact absurd HH.out (by rw [if_neg c46]; simp)
          · have H := HH.out
            rw [if_neg c20] at H
            replace HH := Aside0.mk H
            clear H
            have hk51 : (t17 == 0) = false := beq_eq_false_iff_ne.mpr c20
            have hk52 : (t17 != 0) = true := bne_iff_ne.mpr c20
            clear c20
            have p53 : 0 ≤ (x7 : Int) := of_decide_eq_true (by first | (with_reducible assumption) | assumption)
            have q53 : x7 < (l0.length : Int) := of_decide_eq_true (by first | (with_reducible assumption) | assumption)
            obtain ⟨ad53, e53, hx53_0⟩ := Kd.at_int (Kd.F_now HF0.out) x7 p53 q53
            cases e53
            replace p53 := eq_true p53
            replace q53 := eq_true q53
            by_cases c54 : x4.length < 35184372088832
            · have H := HH.out
              rw [if_pos c54] at H
              replace HH := Aside0.mk H
              clear H
              have LMc54 := Aside0.mk c54
              clear c54
              obtain ⟨y55, hy55⟩ : ∃ y_ : List Int, y_ = (x4 ++ [rd l0 x7]) := ⟨_, rfl⟩
              have H : ((toponymref06_Runs.l0 k10 x1 y55 (wrap64 (x7 + 1)) l0)) = some r := by rw [hy55]; exact HH.out
              replace HH := Aside0.mk H
              clear H
              have NYy55 := Aside0.mk hy55
              clear hy55
              go_wp2_with (((with_reducible refine gate_dst (N := 33) rfl ?_); (try (refine gate_guard (by rfl) ?_; dsimp only)); refine Kd.N_append (Kd.int .i32) w.heap.size rfl _ _ 22 21 (.int .i32 0) 4 rfl Try.underlying22 info21 rfl (by decide) (by decide) (v5) x4 (rd l0 x7) [.int .i32 (rd l0 x7)] (fun k_ => (P_ k_ ∨ w.heap.size ≤ k_) ∧ some k_ ≠ (v2 : Value).ownBlock) (fun k_ => (fun k_ => (P_ k_ ∨ w.heap.size ≤ k_) ∧ some k_ ≠ (v2 : Value).ownBlock) k_ ∧ some k_ ≠ (v5 : Value).ownBlock) rfl rfl (fun _ _ => rfl) (fun _ hk_ => hk_) (fun k_ h_ => ⟨.inr (Nat.le_trans (below_size (by repeat (first | (with_reducible first | exact HB.out | apply below_alloc | apply pw_below_drewN | apply below_drew1) | exact HB.out))) h_), Kd.fresh' (Kd.N_lt (by (with_reducible repeat (first | apply Kd.N_alloc | apply Kd.N_drewN | apply Kd.N_drew)); exact HN3.out)) k_ h_⟩) (by (with_reducible repeat (first | apply Kd.N_alloc | apply Kd.N_drewN | apply Kd.N_drew)); exact HN6.out) (by repeat (first | (with_reducible first | exact HB.out | apply below_alloc | apply pw_below_drewN | apply below_drew1) | exact HB.out)) (below_size (by repeat (first | (with_reducible first | exact HB.out | apply below_alloc | apply pw_below_drewN | apply below_drew1) | exact HB.out))) (by first | (have := LMc54.out; omega) | (have := LMc54.out; simp at *; omega)) ?_; intro v56 w57 hn1 hb1 hg1 hat1); replace hat1 := Aside0.mk hat1; refine stop_ ?_)
              refine Stop.go ?_
              replace hat1 := hat1.out
              replace HF0 := Aside0.mk (Kd.F_mono (Kd.F_after (v := v5) (ok := (fun k_ => (P_ k_ ∨ w.heap.size ≤ k_) ∧ some k_ ≠ (v2 : Value).ownBlock)) (Kd.F_mono (ok := (fun k_ => (P_ k_ ∨ w.heap.size ≤ k_) ∧ some k_ ≠ (v2 : Value).ownBlock ∧ some k_ ≠ (v5 : Value).ownBlock)) (by (with_reducible repeat (first | apply Kd.F_alloc | apply Kd.F_drewN | apply Kd.F_drew)); exact HF0.out) (fun k_ hk_ => ⟨⟨hk_.1, hk_.2.1⟩, hk_.2.2⟩)) hg1 hat1) (fun k_ hk_ => ⟨hk_.1.1, hk_.1.2, hk_.2⟩) : Kd.F (Kd.int .i32) _ (fun k_ => (P_ k_ ∨ w.heap.size ≤ k_) ∧ some k_ ≠ (v2 : Value).ownBlock ∧ some k_ ≠ (v56 : Value).ownBlock) _ _ _)
              replace HN3 := Aside0.mk (Kd.N_mono (Kd.N_after (u := v5) (ok := (fun k_ => (P_ k_ ∨ w.heap.size ≤ k_))) (Kd.N_mono (ok := (fun k_ => (P_ k_ ∨ w.heap.size ≤ k_) ∧ some k_ ≠ (v5 : Value).ownBlock)) (by (with_reducible repeat (first | apply Kd.N_alloc | apply Kd.N_drewN | apply Kd.N_drew)); exact HN3.out) (fun k_ hk_ => ⟨hk_.1, hk_.2⟩)) hg1 hat1) (fun k_ hk_ => ⟨hk_.1, hk_.2⟩) : Kd.N (Kd.slice 21 (Kd.int .i32)) _ _ _ (fun k_ => (P_ k_ ∨ w.heap.size ≤ k_) ∧ some k_ ≠ (v56 : Value).ownBlock) _ _)
              replace HB := Aside0.mk hb1
              clear HN6
              have HN58 := Aside0.mk hn1
              clear hn1 hb1 hg1 hat1
              replace HN58 := Aside0.mk (by rw [NYy55.out]; exact HN58.out : Kd.N (Kd.int .i32) 21 w57 w.heap.size (fun k_ => (P_ k_ ∨ w.heap.size ≤ k_) ∧ some k_ ≠ (v2 : Value).ownBlock) v56 y55)
              clear hx53_0 p53 q53
              go_wp2
              go_roundg k10
              case measure => have := HK0.out; omega
              case rel => exact ⟨x1, y55, wrap64 (x7 + 1), (by first | rfl | (simp; done) | (simp [*]; done)), HH, ⟨by have := HK0.out; omega⟩, ⟨(Kd.F_mono (ok := (fun k_ => (P_ k_ ∨ w.heap.size ≤ k_) ∧ some k_ ≠ (v2 : Value).ownBlock ∧ some k_ ≠ (v56 : Value).ownBlock)) HF0.out (fun k_ hk_ => ⟨hk_.1, hk_.2.1, hk_.2.2⟩))⟩, ⟨(Kd.N_mono (ok := (fun k_ => (P_ k_ ∨ w.heap.size ≤ k_) ∧ some k_ ≠ (v56 : Value).ownBlock)) HN3.out (fun k_ hk_ => ⟨hk_.1, hk_.2⟩))⟩, ⟨(Kd.N_mono (ok := (fun k_ => (P_ k_ ∨ w.heap.size ≤ k_) ∧ some k_ ≠ (v2 : Value).ownBlock)) HN58.out (fun k_ hk_ => ⟨hk_.1, hk_.2⟩))⟩, ⟨HB.out⟩⟩
            · exact absurd HH.out (by rw [if_neg c54]; simp)
        · exact absurd HH.out (by rw [if_neg c14]; simp)
      · have H := HH.out
        rw [if_neg c11] at H
        replace HH := Aside0.mk H
        clear H
        have hk60 : (x7 < (l0.length : Int)) = False := eq_false c11
        have hk61 : decide (x7 < (l0.length : Int)) = false := decide_eq_false c11
        clear c11
        obtain ⟨A62, cp63, he_⟩ := Kd.N_slice HN6.out
        subst he_
        by_cases c64 : (x4.length : Int) > 0
        · have H := HH.out
          rw [if_pos c64] at H
          replace HH := Aside0.mk H
          clear H
          have hk65 : decide (0 < (x4.length : Int)) = true := decide_eq_true c64
          have hk66 : decide (0 < x4.length) = true := decide_eq_true (by omega)
          clear c64
          have HL70 := Aside0.mk (Kd.N_reads' HN6.out).2.1
          have HF69 := Aside0.mk (Kd.N_F HN6.out)
          clear HN6
          replace HF0 := Aside0.mk (Kd.F_mono (ok := (fun k_ => (P_ k_ ∨ w.heap.size ≤ k_) ∧ some k_ ≠ (v2 : Value).ownBlock ∧ some k_ ≠ ((.slice A62 x4.length cp63) : Value).ownBlock)) HF0.out (fun k_ hk_ => ⟨hk_.1, hk_.2.1⟩) : Kd.F (Kd.int .i32) _ (fun k_ => (P_ k_ ∨ w.heap.size ≤ k_) ∧ some k_ ≠ (v2 : Value).ownBlock) _ _ _)
          replace HN3 := Aside0.mk (Kd.N_mono (ok := (fun k_ => (P_ k_ ∨ w.heap.size ≤ k_) ∧ some k_ ≠ ((.slice A62 x4.length cp63) : Value).ownBlock)) HN3.out (fun k_ hk_ => hk_.1) : Kd.N (Kd.slice 21 (Kd.int .i32)) _ _ _ (fun k_ => (P_ k_ ∨ w.heap.size ≤ k_)) _ _)
          by_cases c71 : x1.length < 5864062014805
          · have H := HH.out
            rw [if_pos c71] at H
            replace HH := Aside0.mk H
            clear H
            have LMc71 := Aside0.mk c71
            clear c71
            obtain ⟨y72, hy72⟩ : ∃ y_ : List (List Int), y_ = (x1 ++ [x4]) := ⟨_, rfl⟩
            have H : (some y72) = some r := by rw [hy72]; exact HH.out
            replace HH := Aside0.mk H
            clear H
            have NYy72 := Aside0.mk hy72
            clear hy72
            go_wp2_with (((with_reducible refine gate_dst (N := 40) rfl ?_); (try (refine gate_guard (by rfl) ?_; dsimp only)); refine Kd.N_append (Kd.slice 21 (Kd.int .i32)) w.heap.size rfl _ _ 29 22 (.slice none 0 0) 24 rfl Try.underlying29 info22 rfl (by decide) (by decide) (v2) x1 x4 [.slice A62 x4.length cp63] (fun k_ => (P_ k_ ∨ w.heap.size ≤ k_)) (fun k_ => (fun k_ => (P_ k_ ∨ w.heap.size ≤ k_)) k_ ∧ some k_ ≠ (v2 : Value).ownBlock) rfl rfl (Kd.FK_slice_mk HL70.out (Kd.F_mono (ok := (fun k_ => (P_ k_ ∨ w.heap.size ≤ k_) ∧ some k_ ≠ (v2 : Value).ownBlock)) (by (with_reducible repeat (first | apply Kd.F_alloc | apply Kd.F_drewN | apply Kd.F_drew)); exact HF69.out) (fun k_ hk_ => ⟨hk_.1, hk_.2⟩))) (fun _ hk_ => hk_) (fun k_ h_ => .inr (Nat.le_trans (below_size (by repeat (first | (with_reducible first | exact HB.out | apply below_alloc | apply pw_below_drewN | apply below_drew1) | exact HB.out))) h_)) (by (with_reducible repeat (first | apply Kd.N_alloc | apply Kd.N_drewN | apply Kd.N_drew)); exact HN3.out) (by repeat (first | (with_reducible first | exact HB.out | apply below_alloc | apply pw_below_drewN | apply below_drew1) | exact HB.out)) (below_size (by repeat (first | (with_reducible first | exact HB.out | apply below_alloc | apply pw_below_drewN | apply below_drew1) | exact HB.out))) (by first | (have := LMc71.out; omega) | (have := LMc71.out; simp at *; omega)) ?_; intro v73 w74 hn1 hb1 hg1 hat1); replace hat1 := Aside0.mk hat1; refine stop_ ?_)
            refine Stop.go ?_
            replace hat1 := hat1.out
            replace HF0 := Aside0.mk (Kd.F_mono (Kd.F_after (v := v2) (ok := (fun k_ => (P_ k_ ∨ w.heap.size ≤ k_))) (Kd.F_mono (ok := (fun k_ => (P_ k_ ∨ w.heap.size ≤ k_) ∧ some k_ ≠ (v2 : Value).ownBlock)) (by (with_reducible repeat (first | apply Kd.F_alloc | apply Kd.F_drewN | apply Kd.F_drew)); exact HF0.out) (fun k_ hk_ => ⟨hk_.1, hk_.2⟩)) hg1 hat1) (fun k_ hk_ => ⟨hk_.1, hk_.2⟩) : Kd.F (Kd.int .i32) _ (fun k_ => (P_ k_ ∨ w.heap.size ≤ k_) ∧ some k_ ≠ (v73 : Value).ownBlock) _ _ _)
            replace HF69 := Aside0.mk (Kd.F_mono (Kd.F_after (v := v2) (ok := (fun k_ => (P_ k_ ∨ w.heap.size ≤ k_))) (Kd.F_mono (ok := (fun k_ => (P_ k_ ∨ w.heap.size ≤ k_) ∧ some k_ ≠ (v2 : Value).ownBlock)) (by (with_reducible repeat (first | apply Kd.F_alloc | apply Kd.F_drewN | apply Kd.F_drew)); exact HF69.out) (fun k_ hk_ => ⟨hk_.1, hk_.2⟩)) hg1 hat1) (fun k_ hk_ => ⟨hk_.1, hk_.2⟩) : Kd.F (Kd.int .i32) _ (fun k_ => (P_ k_ ∨ w.heap.size ≤ k_) ∧ some k_ ≠ (v73 : Value).ownBlock) _ _ _)
            replace HB := Aside0.mk hb1
            clear HN3
            have HN75 := Aside0.mk hn1
            clear hn1 hb1 hg1 hat1
            replace HN75 := Aside0.mk (by rw [NYy72.out]; exact HN75.out : Kd.N (Kd.slice 21 (Kd.int .i32)) 22 w74 w.heap.size (fun k_ => (P_ k_ ∨ w.heap.size ≤ k_)) v73 y72)
            have H := HH.out
            obtain rfl := Option.some.inj H
            clear HH
            go_wp2
            go_ret
            exact ⟨_, by first | rfl | (simp; done) | (simp [*]; done), (Kd.N_mono (ok := (fun k_ => (P_ k_ ∨ w.heap.size ≤ k_))) HN75.out (fun k_ hk_ => hk_)), HB.out⟩
          · exact absurd HH.out (by rw [if_neg c71]; simp)
        · have H := HH.out
          rw [if_neg c64] at H
          replace HH := Aside0.mk H
          clear H
          have hk76 : decide (0 < (x4.length : Int)) = false := decide_eq_false c64
          have hk77 : decide (0 < x4.length) = false := decide_eq_false (by omega)
          clear c64
          have H := HH.out
          obtain rfl := Option.some.inj H
          clear HH
          go_wp2
          go_ret
          exact ⟨_, by first | rfl | (simp; done) | (simp [*]; done), (Kd.N_mono (ok := (fun k_ => (P_ k_ ∨ w.heap.size ≤ k_) ∧ some k_ ≠ ((.slice A62 x4.length cp63) : Value).ownBlock)) HN3.out (fun k_ hk_ => hk_.1)), HB.out⟩

end Go.Proofs.Ythdcofcikmeeeaa.GA
