-- written by wip/gen.py, a program of this session
import Derived.Test.YthdcofcikmeeeaaGA0
import Derived.Test.YthdcofcikmeeeaaGAF16
import Derived.Test.YthdcofcikmeeeaaGAF17
namespace Go.Proofs.Ythdcofcikmeeeaa.GA
open Go.RowKit Go.Proofs.Ythdcofcikmeeeaa Go.Proofs.Ythdcofcikmeeeaa.MW Go.Proofs.YthdcofcikmeeeaaW.PrintWords Go.Proofs.YthdcofcikmeeeaaW.PrintLast Go.Proofs.YthdcofcikmeeeaaW.PrintMore
attribute [local go_sem] max2_int min2_int max_two min_two
set_option linter.unusedVariables false
set_option linter.unusedSimpArgs false

/-! ### arrange_Runs: function 13 -/
def arrange_Runs.l0 : Nat → (List (List Int)) → Int → Int → (List Int) → Option ((List (List Int)))
  | 0, _, _, _, _ => none
  | k + 1, x9, x12, x13, t1 => if x13 ≤ (t1.length : Int) then (if x13 = (t1.length : Int) then (if 0 ≤ x12 then (if x12 ≤ x13 then ((some (List.drop x12.toNat (List.take x13.toNat t1) : List Int)).bind fun y27 => (if x9.length < 5864062014805 then ((some (x9 ++ [y27] : List (List Int))).bind fun y29 => ((arrange_Runs.l0 k y29 x13 (wrap64 (x13 + 1)) t1))) else (none))) else (none)) else (none)) else (if 0 ≤ x13 then (if x13 < (t1.length : Int) then ((chars_Class.f (rd t1 x13)).bind fun t43 => (if t43 = 0 then (if 0 ≤ x12 then (if x12 ≤ x13 then ((some (List.drop x12.toNat (List.take x13.toNat t1) : List Int)).bind fun y54 => (if x9.length < 5864062014805 then ((some (x9 ++ [y54] : List (List Int))).bind fun y56 => ((arrange_Runs.l0 k y56 x13 (wrap64 (x13 + 1)) t1))) else (none))) else (none)) else (none)) else ((arrange_Runs.l0 k x9 x12 (wrap64 (x13 + 1)) t1)))) else (none)) else (none))) else (some x9)
def arrange_Runs.f (k : Nat) (l0 : List Int) : Option ((List (List Int))) := (Clone_17.f l0).bind fun t1 => ((arrange_Runs.l0 k ([] : List (List Int)) 0 1 t1))
theorem arrange_Runs.mono_l : ∀ k, (∀ y0 y1 y2 y3, LeO (arrange_Runs.l0 k y0 y1 y2 y3) (arrange_Runs.l0 (k + 1) y0 y1 y2 y3))
  | 0 => fun _ _ _ _ r h => by simp [arrange_Runs.l0] at h
  | k + 1 => by
    have ih0 := arrange_Runs.mono_l k
    · intro y0 y1 y2 y3
      unfold arrange_Runs.l0
      repeat' first
      | (with_reducible exact ih0 _ _ _ _)
      | (with_reducible exact LeO.refl _)
      | (with_reducible exact LeO.none _)
      | (with_reducible refine LeO.ite ?_ ?_)
      | (with_reducible refine LeO.bind ?_ (fun _ => ?_))
      | exact ih0 _ _ _ _
      | exact LeO.none _
      | refine LeO.ite ?_ ?_
      | refine LeO.bind ?_ (fun _ => ?_)
theorem arrange_Runs.mono : ∀ a0_ k, LeO (arrange_Runs.f k a0_) (arrange_Runs.f (k + 1) a0_) := by
  intro a0_ k
  have ih0 := arrange_Runs.mono_l k
  unfold arrange_Runs.f
  repeat' first
      | (with_reducible exact ih0 _ _ _ _)
      | (with_reducible exact LeO.refl _)
      | (with_reducible exact LeO.none _)
      | (with_reducible refine LeO.ite ?_ ?_)
      | (with_reducible refine LeO.bind ?_ (fun _ => ?_))
      | exact ih0 _ _ _ _
      | exact LeO.none _
      | refine LeO.ite ?_ ?_
      | refine LeO.bind ?_ (fun _ => ?_)
set_option maxHeartbeats 8000000 in
set_option maxRecDepth 100000 in
theorem arrange_Runs.calls (k : Nat) (P_ : Nat → Prop) (A0 : Option Addr) (c0 : Nat) (l0 : List Int) (r : List (List Int)) (w : World) (hs0 : Kd.F (Kd.int .i32) w P_ A0 l0.length l0) (hc0 : l0.length ≤ c0) (h : arrange_Runs.f k l0 = some r) :
    Calls Try.prog 13 #[.slice A0 l0.length c0] w (fun e w' => ∃ v0_ : Value, e = .returned (v0_) ∧ Kd.N (Kd.slice 21 (Kd.int .i32)) 22 w' w.heap.size (fun k_ => P_ k_ ∨ w.heap.size ≤ k_) v0_ r ∧ Below w.heap.size w w') := by
  have HH := Aside0.mk (show ((Clone_17.f l0).bind fun t1 => ((arrange_Runs.l0 k ([] : List (List Int)) 0 1 t1))) = some r from h)
  clear h
  have HF0 := Aside0.mk (Kd.F_mono hs0 (fun k_ hk_ => (.inl hk_ : P_ k_ ∨ w.heap.size ≤ k_)))
  have HL0 := Aside0.mk hc0
  clear hs0 hc0
  have HB := Aside0.mk (Below.refl w.heap.size w)
  go_enter Try.func13, Try.ntmps13
  have H := HH.out
  replace H := Option.bind_eq_some_iff.mp H
  obtain ⟨t1, at_, H⟩ := H
  have At2 := Aside0.mk at_
  clear at_
  replace HH := Aside0.mk (show ((arrange_Runs.l0 k ([] : List (List Int)) 0 1 t1)) = some r from H)
  clear H
  go_wp2_with (((with_reducible refine gate_callee (f := 17) rfl ?_); (try (refine gate_guard (by rfl) ?_; dsimp only)); refine goesL_ (some 8) rfl rfl Try.func17 (by kernel_rfl) rfl #[.slice A0 l0.length c0] rfl (by (try simp only [List.map_toArray, List.map_cons, List.map_nil]); first | done | rfl | (simp only [List.length_drop, List.length_take]; rfl)) ?_; (with_reducible refine (Clone_17.calls (fun k_ => (P_ k_ ∨ w.heap.size ≤ k_)) _ _ l0 t1 _ (Kd.F_mono (ok := (fun k_ => (P_ k_ ∨ w.heap.size ≤ k_))) HF0.out (fun k_ hk_ => hk_)) HL0.out At2.out).mono ?_); rintro e w3 ⟨v4, rfl, hn4, hb⟩; refine ⟨_, rfl, ?_⟩); refine stop_ ?_)
  refine Stop.go ?_
  have hba := Kd.N_base hn4
  have HN4 := Aside0.mk (Kd.N_mono (Kd.N_lower hn4 (below_size HB.out)) (fun k_ hk_ => hk_.elim (fun h_ => h_) (fun h_ => .inr (Nat.le_trans (below_size HB.out) h_))) : Kd.N (Kd.int .i32) 21 w3 w.heap.size (fun k_ => (P_ k_ ∨ w.heap.size ≤ k_)) v4 t1)
  replace HF0 := Aside0.mk (Kd.F_mono (Kd.F_elder' (ok := (fun k_ => (P_ k_ ∨ w.heap.size ≤ k_))) HF0.out hba hb) (fun k_ hk_ => ⟨hk_.1, hk_.2⟩) : Kd.F (Kd.int .i32) _ (fun k_ => (P_ k_ ∨ w.heap.size ≤ k_) ∧ some k_ ≠ (v4 : Value).ownBlock) _ _ _)
  replace HB := Aside0.mk (below_step HB.out hb)
  clear hn4 hba hb
  obtain ⟨A5, cp6, he_⟩ := Kd.N_slice HN4.out
  subst he_
  have HL8 := Aside0.mk (Kd.N_reads' HN4.out).2.1
  have HF7 := Aside0.mk (Kd.N_F HN4.out)
  clear HN4
  go_wp2
  go_loopg [4, 5, 6] k (fun kq u4 u5 u6 w' => ∃ (x9 : List (List Int)) (x12 : Int) (x13 : Int), u5 = .int .i64 x12 ∧ u6 = .int .i64 x13 ∧ Aside0 ((arrange_Runs.l0 kq x9 x12 x13 t1) = some r) ∧ Aside0 (kq ≤ k) ∧ Aside0 (Kd.F (Kd.int .i32) w' (fun k_ => (P_ k_ ∨ w.heap.size ≤ k_) ∧ some k_ ≠ (u4 : Value).ownBlock) A5 t1.length t1) ∧ Aside0 (Kd.N (Kd.slice 21 (Kd.int .i32)) 22 w' w.heap.size (fun k_ => (P_ k_ ∨ w.heap.size ≤ k_)) u4 x9) ∧ Aside0 (Below w.heap.size w w'))
  case atStart => exact ⟨([] : List (List Int)), 0, 1, (by first | rfl | (simp; done) | (simp [*]; done)), (by first | rfl | (simp; done) | (simp [*]; done)), HH, ⟨Nat.le_refl _⟩, ⟨(Kd.F_mono (ok := (fun k_ => (P_ k_ ∨ w.heap.size ≤ k_))) HF7.out (fun k_ hk_ => ⟨hk_, (by simp [Value.ownBlock])⟩))⟩, ⟨Kd.N_nil _ _ _ _ _⟩, ⟨HB.out⟩⟩
  case round =>
    clear HH
    clear HF7 HB
    obtain ⟨x9, x12, x13, rfl, rfl, HA, HK0, HF7, HN11, HB⟩ := hrel
    obtain ⟨v10, rfl⟩ : ∃ z_ : Value, z_ = u4 := ⟨_, rfl⟩
    obtain ⟨w15, rfl⟩ : ∃ wo_ : World, wo_ = wr := ⟨_, rfl⟩
    cases gk with
    | zero => exact absurd HA.out (by simp [arrange_Runs.l0])
    | succ k16 =>
      have H := HA.out
      clear HA
      simp only [arrange_Runs.l0] at H
      have HH := Aside0.mk H
      clear H
      by_cases c17 : x13 ≤ (t1.length : Int)
      · have H := HH.out
        rw [if_pos c17] at H
        replace HH := Aside0.mk H
        clear H
        have hk18 : decide (x13 ≤ (t1.length : Int)) = true := decide_eq_true c17
        clear c17
        by_cases c19 : x13 = (t1.length : Int)
        · have H := HH.out
          rw [if_pos c19] at H
          replace HH := Aside0.mk H
          clear H
          have hk20 : (x13 == (t1.length : Int)) = true := beq_iff_eq.mpr c19
          have hk21 : (x13 != (t1.length : Int)) = false := bne_eq_false_iff_eq.mpr c19
          clear c19
          by_cases c23 : 0 ≤ x12
          · have H := HH.out
            rw [if_pos c23] at H
            replace HH := Aside0.mk H
            clear H
            have hk24 : decide (0 ≤ x12) = true := decide_eq_true c23
            clear c23
            by_cases c25 : x12 ≤ x13
            · have H := HH.out
              rw [if_pos c25] at H
              replace HH := Aside0.mk H
              clear H
              have hk26 : decide (x12 ≤ x13) = true := decide_eq_true c25
              clear c25
              obtain ⟨i022, hi022, _, hsz22, _⟩ := info_parts info21
              have q022 : 0 ≤ (x12 : Int) := (by first | exact Int.natCast_nonneg _ | exact of_decide_eq_true (by first | (with_reducible assumption) | assumption))
              have ql22 : (x12 : Int) ≤ (x13 : Int) := (by first | exact Int.le_refl _ | exact of_decide_eq_true (by first | (with_reducible assumption) | assumption) | (simp; done))
              have qh22 : (x13 : Int) ≤ (t1.length : Int) := (by first | exact Int.le_refl _ | exact of_decide_eq_true (by first | (with_reducible assumption) | assumption) | (simp; done))
              have hcut22 := MW.cut_mid3 (P := Try.prog) 22 21 .i64 .i64 .i64 Try.underlying22 hi022 1 hsz22 A5 t1.length cp6 x12 x13 x13 q022 ql22 (Int.le_refl _) qh22 HL8.out
              have hr22 : Kd.F (Kd.int .i32) w15 (fun k_ => (P_ k_ ∨ w.heap.size ≤ k_) ∧ some k_ ≠ (v10 : Value).ownBlock) (if x13.toNat = x12.toNat then A5 else (A5 : Option Addr).map (·.add (x12.toNat * 1))) (List.drop x12.toNat (List.take x13.toNat t1)).length (List.drop x12.toNat (List.take x13.toNat t1)) := MW.Kd.F_mid3 (lo := x12.toNat) (hi := x13.toNat) (m := x13.toNat) HF7.out (by omega) (by omega) (by omega)
              have hy22 : (List.drop x12.toNat (List.take x13.toNat t1)).length = x13.toNat - x12.toNat := (by rw [List.length_drop, List.length_take]; omega)
              have hl22 : (List.drop x12.toNat (List.take x13.toNat t1)).length ≤ (List.drop x12.toNat (List.take x13.toNat t1)).length := Nat.le_refl _
              rw [← hy22] at hcut22
              generalize (if x13.toNat = x12.toNat then A5 else (A5 : Option Addr).map (·.add (x12.toNat * 1))) = A22 at hcut22 hr22
              skip
              clear hy22 q022 ql22 qh22
              have HF22 := Aside0.mk hr22
              have HL22 := Aside0.mk hl22
              clear hr22 hl22 hi022 hsz22
              obtain ⟨y27, hy27⟩ : ∃ y_ : List Int, y_ = List.drop x12.toNat (List.take x13.toNat t1) := ⟨_, rfl⟩
              rw [← hy27] at hcut22 HL22 HF22
              have H : (if x9.length < 5864062014805 then ((some (x9 ++ [y27] : List (List Int))).bind fun y29 => ((arrange_Runs.l0 k16 y29 x13 (wrap64 (x13 + 1)) t1))) else (none)) = some r := by rw [hy27]; exact HH.out
              replace HH := Aside0.mk H
              clear H
              clear hy27
              by_cases c28 : x9.length < 5864062014805
              · have H := HH.out
                rw [if_pos c28] at H
                replace HH := Aside0.mk H
                clear H
                have LMc28 := Aside0.mk c28
                clear c28
                obtain ⟨y29, hy29⟩ : ∃ y_ : List (List Int), y_ = (x9 ++ [y27]) := ⟨_, rfl⟩
                have H : ((arrange_Runs.l0 k16 y29 x13 (wrap64 (x13 + 1)) t1)) = some r := by rw [hy29]; exact HH.out
                replace HH := Aside0.mk H
                clear H
                have NYy29 := Aside0.mk hy29
                clear hy29
                go_wp2_with (((with_reducible refine gate_dst (N := 34) rfl ?_); (try (refine gate_guard (by rfl) ?_; dsimp only)); refine Kd.N_append (Kd.slice 21 (Kd.int .i32)) w.heap.size rfl _ _ 29 22 (.slice none 0 0) 24 rfl Try.underlying29 info22 rfl (by decide) (by decide) (v10) x9 y27 [.slice A22 y27.length y27.length] (fun k_ => (P_ k_ ∨ w.heap.size ≤ k_)) (fun k_ => (fun k_ => (P_ k_ ∨ w.heap.size ≤ k_)) k_ ∧ some k_ ≠ (v10 : Value).ownBlock) rfl rfl (Kd.FK_slice_mk HL22.out (Kd.F_mono (ok := (fun k_ => (P_ k_ ∨ w.heap.size ≤ k_) ∧ some k_ ≠ (v10 : Value).ownBlock)) (by (with_reducible repeat (first | apply Kd.F_alloc | apply Kd.F_drewN | apply Kd.F_drew)); exact HF22.out) (fun k_ hk_ => ⟨hk_.1, hk_.2⟩))) (fun _ hk_ => hk_) (fun k_ h_ => .inr (Nat.le_trans (below_size (by repeat (first | (with_reducible first | exact HB.out | apply below_alloc | apply pw_below_drewN | apply below_drew1) | exact HB.out))) h_)) (by (with_reducible repeat (first | apply Kd.N_alloc | apply Kd.N_drewN | apply Kd.N_drew)); exact HN11.out) (by repeat (first | (with_reducible first | exact HB.out | apply below_alloc | apply pw_below_drewN | apply below_drew1) | exact HB.out)) (below_size (by repeat (first | (with_reducible first | exact HB.out | apply below_alloc | apply pw_below_drewN | apply below_drew1) | exact HB.out))) (by first | (have := LMc28.out; omega) | (have := LMc28.out; simp at *; omega)) ?_; intro v30 w31 hn1 hb1 hg1 hat1); replace hat1 := Aside0.mk hat1; refine stop_ ?_)
                refine Stop.go ?_
                replace hat1 := hat1.out
                replace HF7 := Aside0.mk (Kd.F_mono (Kd.F_after (v := v10) (ok := (fun k_ => (P_ k_ ∨ w.heap.size ≤ k_))) (Kd.F_mono (ok := (fun k_ => (P_ k_ ∨ w.heap.size ≤ k_) ∧ some k_ ≠ (v10 : Value).ownBlock)) (by (with_reducible repeat (first | apply Kd.F_alloc | apply Kd.F_drewN | apply Kd.F_drew)); exact HF7.out) (fun k_ hk_ => ⟨hk_.1, hk_.2⟩)) hg1 hat1) (fun k_ hk_ => ⟨hk_.1, hk_.2⟩) : Kd.F (Kd.int .i32) _ (fun k_ => (P_ k_ ∨ w.heap.size ≤ k_) ∧ some k_ ≠ (v30 : Value).ownBlock) _ _ _)
                replace HF22 := Aside0.mk (Kd.F_mono (Kd.F_after (v := v10) (ok := (fun k_ => (P_ k_ ∨ w.heap.size ≤ k_))) (Kd.F_mono (ok := (fun k_ => (P_ k_ ∨ w.heap.size ≤ k_) ∧ some k_ ≠ (v10 : Value).ownBlock)) (by (with_reducible repeat (first | apply Kd.F_alloc | apply Kd.F_drewN | apply Kd.F_drew)); exact HF22.out) (fun k_ hk_ => ⟨hk_.1, hk_.2⟩)) hg1 hat1) (fun k_ hk_ => ⟨hk_.1, hk_.2⟩) : Kd.F (Kd.int .i32) _ (fun k_ => (P_ k_ ∨ w.heap.size ≤ k_) ∧ some k_ ≠ (v30 : Value).ownBlock) _ _ _)
                replace HB := Aside0.mk hb1
                clear HN11
                have HN32 := Aside0.mk hn1
                clear hn1 hb1 hg1 hat1
                replace HN32 := Aside0.mk (by rw [NYy29.out]; exact HN32.out : Kd.N (Kd.slice 21 (Kd.int .i32)) 22 w31 w.heap.size (fun k_ => (P_ k_ ∨ w.heap.size ≤ k_)) v30 y29)
                clear hcut22
                go_wp2
                go_roundg k16
                case measure => have := HK0.out; omega
                case rel => exact ⟨y29, x13, wrap64 (x13 + 1), (by first | rfl | (simp; done) | (simp [*]; done)), (by first | rfl | (simp; done) | (simp [*]; done)), HH, ⟨by have := HK0.out; omega⟩, ⟨(Kd.F_mono (ok := (fun k_ => (P_ k_ ∨ w.heap.size ≤ k_) ∧ some k_ ≠ (v30 : Value).ownBlock)) HF7.out (fun k_ hk_ => ⟨hk_.1, hk_.2⟩))⟩, ⟨(Kd.N_mono (ok := (fun k_ => (P_ k_ ∨ w.heap.size ≤ k_))) HN32.out (fun k_ hk_ => hk_))⟩, ⟨HB.out⟩⟩
              · exact absurd HH.out (by rw [if_neg c28]; simp)
            · exact absurd HH.out (by rw [if_neg c25]; simp)
          · exact absurd HH.out (by rw [if_neg c23]; simp)
        · have H := HH.out
          rw [if_neg c19] at H
          replace HH := Aside0.mk H
          clear H
          have hk35 : (x13 == (t1.length : Int)) = false := beq_eq_false_iff_ne.mpr c19
          have hk36 : (x13 != (t1.length : Int)) = true := bne_iff_ne.mpr c19
          clear c19
          by_cases c37 : 0 ≤ x13
          · have H := HH.out
            rw [if_pos c37] at H
            replace HH := Aside0.mk H
            clear H
            have hk38 : decide (0 ≤ x13) = true := decide_eq_true c37
            clear c37
            by_cases c39 : x13 < (t1.length : Int)
            · have H := HH.out
              rw [if_pos c39] at H
              replace HH := Aside0.mk H
              clear H
              have hk40 : (x13 < (t1.length : Int)) = True := eq_true c39
              have hk41 : decide (x13 < (t1.length : Int)) = true := decide_eq_true c39
              clear c39
              have p42 : 0 ≤ (x13 : Int) := of_decide_eq_true (by first | (with_reducible assumption) | assumption)
              have q42 : x13 < (t1.length : Int) := of_decide_eq_true (by first | (with_reducible assumption) | assumption)
              obtain ⟨ad42, e42, hx42_0⟩ := Kd.at_int (Kd.F_now HF7.out) x13 p42 q42
              cases e42
              replace p42 := eq_true p42
              replace q42 := eq_true q42
              have H := HH.out
              replace H := Option.bind_eq_some_iff.mp H
              obtain ⟨t43, at_, H⟩ := H
              have At44 := Aside0.mk at_
              clear at_
              replace HH := Aside0.mk (show (if t43 = 0 then (if 0 ≤ x12 then (if x12 ≤ x13 then ((some (List.drop x12.toNat (List.take x13.toNat t1) : List Int)).bind fun y54 => (if x9.length < 5864062014805 then ((some (x9 ++ [y54] : List (List Int))).bind fun y56 => ((arrange_Runs.l0 k16 y56 x13 (wrap64 (x13 + 1)) t1))) else (none))) else (none)) else (none)) else ((arrange_Runs.l0 k16 x9 x12 (wrap64 (x13 + 1)) t1))) = some r from H)
              clear H
              go_wp2_with (((with_reducible refine gate_callee (f := 16) rfl ?_); (try (refine gate_guard (by rfl) ?_; dsimp only)); refine goesL_ (some 24) rfl rfl Try.func16 (by kernel_rfl) rfl #[.int .i32 (rd t1 x13)] rfl (by (try simp only [List.map_toArray, List.map_cons, List.map_nil]); first | done | rfl | (simp only [List.length_drop, List.length_take]; rfl)) ?_; (with_reducible refine (chars_Class.calls  (rd t1 x13) t43 _  At44.out).mono ?_); rintro e w' ⟨rfl, ⟨nd, rfl⟩⟩; refine ⟨_, rfl, ?_⟩); refine stop_ ?_)
              refine Stop.go ?_
              by_cases c46 : t43 = 0
              · have H := HH.out
                rw [if_pos c46] at H
                replace HH := Aside0.mk H
                clear H
                have hk47 : (t43 == 0) = true := beq_iff_eq.mpr c46
                have hk48 : (t43 != 0) = false := bne_eq_false_iff_eq.mpr c46
                clear c46
                by_cases c50 : 0 ≤ x12
                · have H := HH.out
                  rw [if_pos c50] at H
                  replace HH := Aside0.mk H
                  clear H
                  have hk51 : decide (0 ≤ x12) = true := decide_eq_true c50
                  clear c50
                  by_cases c52 : x12 ≤ x13
                  · have H := HH.out
                    rw [if_pos c52] at H
                    replace HH := Aside0.mk H
                    clear H
                    have hk53 : decide (x12 ≤ x13) = true := decide_eq_true c52
                    clear c52
                    obtain ⟨i049, hi049, _, hsz49, _⟩ := info_parts info21
                    have q049 : 0 ≤ (x12 : Int) := (by first | exact Int.natCast_nonneg _ | exact of_decide_eq_true (by first | (with_reducible assumption) | assumption))
                    have ql49 : (x12 : Int) ≤ (x13 : Int) := (by first | exact Int.le_refl _ | exact of_decide_eq_true (by first | (with_reducible assumption) | assumption) | (simp; done))
                    have qh49 : (x13 : Int) ≤ (t1.length : Int) := (by first | exact Int.le_refl _ | exact of_decide_eq_true (by first | (with_reducible assumption) | assumption) | (simp; done))
                    have hcut49 := MW.cut_mid3 (P := Try.prog) 22 21 .i64 .i64 .i64 Try.underlying22 hi049 1 hsz49 (some ad42) t1.length cp6 x12 x13 x13 q049 ql49 (Int.le_refl _) qh49 HL8.out
                    have hr49 : Kd.F (Kd.int .i32) w15 (fun k_ => (P_ k_ ∨ w.heap.size ≤ k_) ∧ some k_ ≠ (v10 : Value).ownBlock) (if x13.toNat = x12.toNat then (some ad42) else ((some ad42) : Option Addr).map (·.add (x12.toNat * 1))) (List.drop x12.toNat (List.take x13.toNat t1)).length (List.drop x12.toNat (List.take x13.toNat t1)) := MW.Kd.F_mid3 (lo := x12.toNat) (hi := x13.toNat) (m := x13.toNat) HF7.out (by omega) (by omega) (by omega)
                    have hy49 : (List.drop x12.toNat (List.take x13.toNat t1)).length = x13.toNat - x12.toNat := (by rw [List.length_drop, List.length_take]; omega)
                    have hl49 : (List.drop x12.toNat (List.take x13.toNat t1)).length ≤ (List.drop x12.toNat (List.take x13.toNat t1)).length := Nat.le_refl _
                    rw [← hy49] at hcut49
                    generalize (if x13.toNat = x12.toNat then (some ad42) else ((some ad42) : Option Addr).map (·.add (x12.toNat * 1))) = A49 at hcut49 hr49
                    skip
                    clear hy49 q049 ql49 qh49
                    have HF49 := Aside0.mk hr49
                    have HL49 := Aside0.mk hl49
                    clear hr49 hl49 hi049 hsz49
                    obtain ⟨y54, hy54⟩ : ∃ y_ : List Int, y_ = List.drop x12.toNat (List.take x13.toNat t1) := ⟨_, rfl⟩
                    rw [← hy54] at hcut49 HL49 HF49
                    have H : (if x9.length < 5864062014805 then ((some (x9 ++ [y54] : List (List Int))).bind fun y56 => ((arrange_Runs.l0 k16 y56 x13 (wrap64 (x13 + 1)) t1))) else (none)) = some r := by rw [hy54]; exact HH.out
                    replace HH := Aside0.mk H
                    clear H
                    clear hy54
                    by_cases c55 : x9.length < 5864062014805
                    · have H := HH.out
                      rw [if_pos c55] at H
                      replace HH := Aside0.mk H
                      clear H
                      have LMc55 := Aside0.mk c55
                      clear c55
                      obtain ⟨y56, hy56⟩ : ∃ y_ : List (List Int), y_ = (x9 ++ [y54]) := ⟨_, rfl⟩
                      have H : ((arrange_Runs.l0 k16 y56 x13 (wrap64 (x13 + 1)) t1)) = some r := by rw [hy56]; exact HH.out
                      replace HH := Aside0.mk H
                      clear H
                      have NYy56 := Aside0.mk hy56
                      clear hy56
                      go_wp2_with (((with_reducible refine gate_dst (N := 34) rfl ?_); (try (refine gate_guard (by rfl) ?_; dsimp only)); refine Kd.N_append (Kd.slice 21 (Kd.int .i32)) w.heap.size rfl _ _ 29 22 (.slice none 0 0) 24 rfl Try.underlying29 info22 rfl (by decide) (by decide) (v10) x9 y54 [.slice A49 y54.length y54.length] (fun k_ => (P_ k_ ∨ w.heap.size ≤ k_)) (fun k_ => (fun k_ => (P_ k_ ∨ w.heap.size ≤ k_)) k_ ∧ some k_ ≠ (v10 : Value).ownBlock) rfl rfl (Kd.FK_slice_mk HL49.out (Kd.F_mono (ok := (fun k_ => (P_ k_ ∨ w.heap.size ≤ k_) ∧ some k_ ≠ (v10 : Value).ownBlock)) (by (with_reducible repeat (first | apply Kd.F_alloc | apply Kd.F_drewN | apply Kd.F_drew)); exact HF49.out) (fun k_ hk_ => ⟨hk_.1, hk_.2⟩))) (fun _ hk_ => hk_) (fun k_ h_ => .inr (Nat.le_trans (below_size (by repeat (first | (with_reducible first | exact HB.out | apply below_alloc | apply pw_below_drewN | apply below_drew1) | exact HB.out))) h_)) (by (with_reducible repeat (first | apply Kd.N_alloc | apply Kd.N_drewN | apply Kd.N_drew)); exact HN11.out) (by repeat (first | (with_reducible first | exact HB.out | apply below_alloc | apply pw_below_drewN | apply below_drew1) | exact HB.out)) (below_size (by repeat (first | (with_reducible first | exact HB.out | apply below_alloc | apply pw_below_drewN | apply below_drew1) | exact HB.out))) (by first | (have := LMc55.out; omega) | (have := LMc55.out; simp at *; omega)) ?_; intro v57 w58 hn1 hb1 hg1 hat1); replace hat1 := Aside0.mk hat1; refine stop_ ?_)
                      refine Stop.go ?_
                      replace hat1 := hat1.out
                      replace HF7 := Aside0.mk (Kd.F_mono (Kd.F_after (v := v10) (ok := (fun k_ => (P_ k_ ∨ w.heap.size ≤ k_))) (Kd.F_mono (ok := (fun k_ => (P_ k_ ∨ w.heap.size ≤ k_) ∧ some k_ ≠ (v10 : Value).ownBlock)) (by (with_reducible repeat (first | apply Kd.F_alloc | apply Kd.F_drewN | apply Kd.F_drew)); exact HF7.out) (fun k_ hk_ => ⟨hk_.1, hk_.2⟩)) hg1 hat1) (fun k_ hk_ => ⟨hk_.1, hk_.2⟩) : Kd.F (Kd.int .i32) _ (fun k_ => (P_ k_ ∨ w.heap.size ≤ k_) ∧ some k_ ≠ (v57 : Value).ownBlock) _ _ _)
                      replace HF49 := Aside0.mk (Kd.F_mono (Kd.F_after (v := v10) (ok := (fun k_ => (P_ k_ ∨ w.heap.size ≤ k_))) (Kd.F_mono (ok := (fun k_ => (P_ k_ ∨ w.heap.size ≤ k_) ∧ some k_ ≠ (v10 : Value).ownBlock)) (by (with_reducible repeat (first | apply Kd.F_alloc | apply Kd.F_drewN | apply Kd.F_drew)); exact HF49.out) (fun k_ hk_ => ⟨hk_.1, hk_.2⟩)) hg1 hat1) (fun k_ hk_ => ⟨hk_.1, hk_.2⟩) : Kd.F (Kd.int .i32) _ (fun k_ => (P_ k_ ∨ w.heap.size ≤ k_) ∧ some k_ ≠ (v57 : Value).ownBlock) _ _ _)
                      replace HB := Aside0.mk hb1
                      clear HN11
                      have HN59 := Aside0.mk hn1
                      clear hn1 hb1 hg1 hat1
                      replace HN59 := Aside0.mk (by rw [NYy56.out]; exact HN59.out : Kd.N (Kd.slice 21 (Kd.int .i32)) 22 w58 w.heap.size (fun k_ => (P_ k_ ∨ w.heap.size ≤ k_)) v57 y56)
                      clear hx42_0 p42 q42 hcut49
                      go_wp2
                      go_roundg k16
                      case measure => have := HK0.out; omega
                      case rel => exact ⟨y56, x13, wrap64 (x13 + 1), (by first | rfl | (simp; done) | (simp [*]; done)), (by first | rfl | (simp; done) | (simp [*]; done)), HH, ⟨by have := HK0.out; omega⟩, ⟨(Kd.F_mono (ok := (fun k_ => (P_ k_ ∨ w.heap.size ≤ k_) ∧ some k_ ≠ (v57 : Value).ownBlock)) HF7.out (fun k_ hk_ => ⟨hk_.1, hk_.2⟩))⟩, ⟨(Kd.N_mono (ok := (fun k_ => (P_ k_ ∨ w.heap.size ≤ k_))) HN59.out (fun k_ hk_ => hk_))⟩, ⟨HB.out⟩⟩
                    · exact absurd HH.out (by rw [if_neg c55]; simp)
                  · exact absurd HH.out (by rw [if_neg c52]; simp)
                · exact absurd HH.out (by rw [if_neg c50]; simp)
              · have H := HH.out
                rw [if_neg c46] at H
                replace HH := Aside0.mk H
                clear H
                have hk62 : (t43 == 0) = false := beq_eq_false_iff_ne.mpr c46
                have hk63 : (t43 != 0) = true := bne_iff_ne.mpr c46
                clear c46
                go_wp2
                go_roundg k16
                case measure => have := HK0.out; omega
                case rel => exact ⟨x9, x12, wrap64 (x13 + 1), (by first | rfl | (simp; done) | (simp [*]; done)), (by first | rfl | (simp; done) | (simp [*]; done)), HH, ⟨by have := HK0.out; omega⟩, ⟨(Kd.F_mono (ok := (fun k_ => (P_ k_ ∨ w.heap.size ≤ k_) ∧ some k_ ≠ (v10 : Value).ownBlock)) (by (with_reducible repeat (first | apply Kd.F_alloc | apply Kd.F_drewN | apply Kd.F_drew)); exact HF7.out) (fun k_ hk_ => ⟨hk_.1, hk_.2⟩))⟩, ⟨(Kd.N_mono (ok := (fun k_ => (P_ k_ ∨ w.heap.size ≤ k_))) (by (with_reducible repeat (first | apply Kd.N_alloc | apply Kd.N_drewN | apply Kd.N_drew)); exact HN11.out) (fun k_ hk_ => hk_))⟩, ⟨(by repeat (first | (with_reducible first | exact HB.out | apply below_alloc | apply pw_below_drewN | apply below_drew1) | exact HB.out))⟩⟩
            · exact absurd HH.out (by rw [if_neg c39]; simp)
          · exact absurd HH.out (by rw [if_neg c37]; simp)
      · have H := HH.out
        rw [if_neg c17] at H
        replace HH := Aside0.mk H
        clear H
        have hk67 : decide (x13 ≤ (t1.length : Int)) = false := decide_eq_false c17
        clear c17
        have H := HH.out
        obtain rfl := Option.some.inj H
        clear HH
        go_wp2
        go_ret
        exact ⟨_, by first | rfl | (simp; done) | (simp [*]; done), (Kd.N_mono (ok := (fun k_ => (P_ k_ ∨ w.heap.size ≤ k_))) HN11.out (fun k_ hk_ => hk_)), HB.out⟩

end Go.Proofs.Ythdcofcikmeeeaa.GA
