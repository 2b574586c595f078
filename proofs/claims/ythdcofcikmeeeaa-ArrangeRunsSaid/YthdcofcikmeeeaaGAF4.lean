-- written by wip/gen.py, a program of this session
import Derived.Test.YthdcofcikmeeeaaGA0
import Derived.Test.YthdcofcikmeeeaaGAF13
import Derived.Test.YthdcofcikmeeeaaGAF14
import Derived.Test.YthdcofcikmeeeaaGAF7
import Derived.Test.YthdcofcikmeeeaaGAF8
namespace Go.Proofs.Ythdcofcikmeeeaa.GA
open Go.RowKit Go.Proofs.Ythdcofcikmeeeaa Go.Proofs.Ythdcofcikmeeeaa.MW Go.Proofs.YthdcofcikmeeeaaW.PrintWords Go.Proofs.YthdcofcikmeeeaaW.PrintLast Go.Proofs.YthdcofcikmeeeaaW.PrintMore
attribute [local go_sem] max2_int min2_int max_two min_two
set_option linter.unusedVariables false
set_option linter.unusedSimpArgs false

/-! ### toponymlaw06_ArrangeRuns: function 4 -/
def toponymlaw06_ArrangeRuns.l0 : Nat → Int → (List (List Int)) → (List (List Int)) → Option (Bool)
  | 0, _, _, _ => none
  | k + 1, x33, t13, t9 => if x33 < (t9.length : Int) then (if 0 ≤ x33 then (if x33 < (t13.length : Int) then ((toponymref01_Same.f k (rd_L1 t9 x33) (rd_L1 t13 x33)).bind fun t46 => (if t46 = true then ((toponymlaw06_ArrangeRuns.l0 k (wrap64 (x33 + 1)) t13 t9)) else (some false))) else (none)) else (none)) else ((toponymlaw06_awake.f k ).bind fun t54 => (some t54))
def toponymlaw06_ArrangeRuns.f (k : Nat) (l0 : List Int) : Option (Bool) := if (l0.length : Int) > 400 then ((toponymlaw06_awake.f k ).bind fun t4 => (some t4)) else ((arrange_Runs.f k l0).bind fun t9 => ((toponymref06_Runs.f k l0).bind fun t13 => (if (t9.length : Int) = (t13.length : Int) then ((toponymlaw06_ArrangeRuns.l0 k 0 t13 t9)) else (some false))))
theorem toponymlaw06_ArrangeRuns.mono_l : ∀ k, (∀ y0 y1 y2, LeO (toponymlaw06_ArrangeRuns.l0 k y0 y1 y2) (toponymlaw06_ArrangeRuns.l0 (k + 1) y0 y1 y2))
  | 0 => fun _ _ _ r h => by simp [toponymlaw06_ArrangeRuns.l0] at h
  | k + 1 => by
    have ih0 := toponymlaw06_ArrangeRuns.mono_l k
    · intro y0 y1 y2
      unfold toponymlaw06_ArrangeRuns.l0
      repeat' first
      | (with_reducible exact ih0 _ _ _)
      | (with_reducible exact arrange_Runs.mono _ _)
      | (with_reducible exact toponymlaw06_awake.mono _)
      | (with_reducible exact toponymref01_Same.mono _ _ _)
      | (with_reducible exact toponymref06_Runs.mono _ _)
      | (with_reducible exact LeO.refl _)
      | (with_reducible exact LeO.none _)
      | (with_reducible refine LeO.ite ?_ ?_)
      | (with_reducible refine LeO.bind ?_ (fun _ => ?_))
      | exact ih0 _ _ _
      | exact arrange_Runs.mono _ _
      | exact toponymlaw06_awake.mono _
      | exact toponymref01_Same.mono _ _ _
      | exact toponymref06_Runs.mono _ _
      | exact LeO.none _
      | refine LeO.ite ?_ ?_
      | refine LeO.bind ?_ (fun _ => ?_)
theorem toponymlaw06_ArrangeRuns.mono : ∀ a0_ k, LeO (toponymlaw06_ArrangeRuns.f k a0_) (toponymlaw06_ArrangeRuns.f (k + 1) a0_) := by
  intro a0_ k
  have ih0 := toponymlaw06_ArrangeRuns.mono_l k
  unfold toponymlaw06_ArrangeRuns.f
  repeat' first
      | (with_reducible exact ih0 _ _ _)
      | (with_reducible exact arrange_Runs.mono _ _)
      | (with_reducible exact toponymlaw06_awake.mono _)
      | (with_reducible exact toponymref01_Same.mono _ _ _)
      | (with_reducible exact toponymref06_Runs.mono _ _)
      | (with_reducible exact LeO.refl _)
      | (with_reducible exact LeO.none _)
      | (with_reducible refine LeO.ite ?_ ?_)
      | (with_reducible refine LeO.bind ?_ (fun _ => ?_))
      | exact ih0 _ _ _
      | exact arrange_Runs.mono _ _
      | exact toponymlaw06_awake.mono _
      | exact toponymref01_Same.mono _ _ _
      | exact toponymref06_Runs.mono _ _
      | exact LeO.none _
      | refine LeO.ite ?_ ?_
      | refine LeO.bind ?_ (fun _ => ?_)
set_option maxHeartbeats 8000000 in
set_option maxRecDepth 100000 in
theorem toponymlaw06_ArrangeRuns.calls (k : Nat) (P_ : Nat → Prop) (A0 : Option Addr) (c0 : Nat) (l0 : List Int) (r : Bool) (w : World) (hs0 : Kd.F (Kd.int .i32) w P_ A0 l0.length l0) (hc0 : l0.length ≤ c0) (h : toponymlaw06_ArrangeRuns.f k l0 = some r) :
    Calls Try.prog 4 #[.slice A0 l0.length c0] w (fun e w' => e = .returned (.bool r) ∧ Below w.heap.size w w') := by
  have HH := Aside0.mk (show (if (l0.length : Int) > 400 then ((toponymlaw06_awake.f k ).bind fun t4 => (some t4)) else ((arrange_Runs.f k l0).bind fun t9 => ((toponymref06_Runs.f k l0).bind fun t13 => (if (t9.length : Int) = (t13.length : Int) then ((toponymlaw06_ArrangeRuns.l0 k 0 t13 t9)) else (some false))))) = some r from h)
  clear h
  have HF0 := Aside0.mk (Kd.F_mono hs0 (fun k_ hk_ => (.inl hk_ : P_ k_ ∨ w.heap.size ≤ k_)))
  have HL0 := Aside0.mk hc0
  clear hs0 hc0
  have HB := Aside0.mk (Below.refl w.heap.size w)
  go_enter Try.func4, Try.ntmps4
  by_cases c1 : (l0.length : Int) > 400
  · have H := HH.out
    rw [if_pos c1] at H
    replace HH := Aside0.mk H
    clear H
    have hk2 : decide (400 < (l0.length : Int)) = true := decide_eq_true c1
    have hk3 : decide (400 < l0.length) = true := decide_eq_true (by omega)
    clear c1
    have H := HH.out
    replace H := Option.bind_eq_some_iff.mp H
    obtain ⟨t4, at_, H⟩ := H
    have At5 := Aside0.mk at_
    clear at_
    replace HH := Aside0.mk (show (some t4) = some r from H)
    clear H
    go_wp2_with (((with_reducible refine gate_callee (f := 7) rfl ?_); (try (refine gate_guard (by rfl) ?_; dsimp only)); refine goesL_ (some 9) rfl rfl Try.func7 (by kernel_rfl) rfl #[] rfl (by (try simp only [List.map_toArray, List.map_cons, List.map_nil]); first | done | rfl | (simp only [List.length_drop, List.length_take]; rfl)) ?_; (with_reducible refine (toponymlaw06_awake.calls k  t4 _  At5.out).mono ?_); rintro e w6 ⟨rfl, hb⟩; refine ⟨_, rfl, ?_⟩); refine stop_ ?_)
    refine Stop.go ?_
    replace HF0 := Aside0.mk (Kd.F_below HF0.out hb)
    replace HB := Aside0.mk (below_step HB.out hb)
    clear hb
    have H := HH.out
    obtain rfl := Option.some.inj H
    clear HH
    go_wp2
    go_ret
    exact ⟨by first | rfl | (simp; done) | (simp [*]; done), HB.out⟩
  · have H := HH.out
    rw [if_neg c1] at H
    replace HH := Aside0.mk H
    clear H
    have hk7 : decide (400 < (l0.length : Int)) = false := decide_eq_false c1
    have hk8 : decide (400 < l0.length) = false := decide_eq_false (by omega)
    clear c1
    have H := HH.out
    replace H := Option.bind_eq_some_iff.mp H
    obtain ⟨t9, at_, H⟩ := H
    have At10 := Aside0.mk at_
    clear at_
    replace HH := Aside0.mk (show ((toponymref06_Runs.f k l0).bind fun t13 => (if (t9.length : Int) = (t13.length : Int) then ((toponymlaw06_ArrangeRuns.l0 k 0 t13 t9)) else (some false))) = some r from H)
    clear H
    go_wp2_with (((with_reducible refine gate_callee (f := 13) rfl ?_); (try (refine gate_guard (by rfl) ?_; dsimp only)); refine goesL_ (some 11) rfl rfl Try.func13 (by kernel_rfl) rfl #[.slice A0 l0.length c0] rfl (by (try simp only [List.map_toArray, List.map_cons, List.map_nil]); first | done | rfl | (simp only [List.length_drop, List.length_take]; rfl)) ?_; (with_reducible refine (arrange_Runs.calls k (fun k_ => (P_ k_ ∨ w.heap.size ≤ k_)) _ _ l0 t9 _ (Kd.F_mono (ok := (fun k_ => (P_ k_ ∨ w.heap.size ≤ k_))) HF0.out (fun k_ hk_ => hk_)) HL0.out At10.out).mono ?_); rintro e w11 ⟨v12, rfl, hn12, hb⟩; refine ⟨_, rfl, ?_⟩); refine stop_ ?_)
    refine Stop.go ?_
    have hba := Kd.N_base hn12
    have HN12 := Aside0.mk (Kd.N_mono (Kd.N_lower hn12 (below_size HB.out)) (fun k_ hk_ => hk_.elim (fun h_ => h_) (fun h_ => .inr (Nat.le_trans (below_size HB.out) h_))) : Kd.N (Kd.slice 21 (Kd.int .i32)) 22 w11 w.heap.size (fun k_ => (P_ k_ ∨ w.heap.size ≤ k_)) v12 t9)
    replace HF0 := Aside0.mk (Kd.F_mono (Kd.F_elder' (ok := (fun k_ => (P_ k_ ∨ w.heap.size ≤ k_))) HF0.out hba hb) (fun k_ hk_ => ⟨hk_.1, hk_.2⟩) : Kd.F (Kd.int .i32) _ (fun k_ => (P_ k_ ∨ w.heap.size ≤ k_) ∧ some k_ ≠ (v12 : Value).ownBlock) _ _ _)
    replace HB := Aside0.mk (below_step HB.out hb)
    clear hn12 hba hb
    have H := HH.out
    replace H := Option.bind_eq_some_iff.mp H
    obtain ⟨t13, at_, H⟩ := H
    have At14 := Aside0.mk at_
    clear at_
    replace HH := Aside0.mk (show (if (t9.length : Int) = (t13.length : Int) then ((toponymlaw06_ArrangeRuns.l0 k 0 t13 t9)) else (some false)) = some r from H)
    clear H
    go_wp2_with (((with_reducible refine gate_callee (f := 14) rfl ?_); (try (refine gate_guard (by rfl) ?_; dsimp only)); refine goesL_ (some 13) rfl rfl Try.func14 (by kernel_rfl) rfl #[.slice A0 l0.length c0] rfl (by (try simp only [List.map_toArray, List.map_cons, List.map_nil]); first | done | rfl | (simp only [List.length_drop, List.length_take]; rfl)) ?_; (with_reducible refine (toponymref06_Runs.calls k (fun k_ => (P_ k_ ∨ w.heap.size ≤ k_) ∧ some k_ ≠ (v12 : Value).ownBlock) _ _ l0 t13 _ (Kd.F_mono (ok := (fun k_ => (P_ k_ ∨ w.heap.size ≤ k_) ∧ some k_ ≠ (v12 : Value).ownBlock)) HF0.out (fun k_ hk_ => ⟨hk_.1, hk_.2⟩)) HL0.out At14.out).mono ?_); rintro e w15 ⟨v16, rfl, hn16, hb⟩; refine ⟨_, rfl, ?_⟩); refine stop_ ?_)
    refine Stop.go ?_
    have hba := Kd.N_base hn16
    have HN16 := Aside0.mk (Kd.N_mono (Kd.N_lower hn16 (below_size HB.out)) (fun k_ hk_ => hk_.elim (fun h_ => h_) (fun h_ => ⟨.inr (Nat.le_trans (below_size HB.out) h_), Kd.fresh' (Kd.N_lt HN12.out) k_ h_⟩)) : Kd.N (Kd.slice 21 (Kd.int .i32)) 22 w15 w.heap.size (fun k_ => (P_ k_ ∨ w.heap.size ≤ k_) ∧ some k_ ≠ (v12 : Value).ownBlock) v16 t13)
    replace HF0 := Aside0.mk (Kd.F_mono (Kd.F_elder' (ok := (fun k_ => (P_ k_ ∨ w.heap.size ≤ k_) ∧ some k_ ≠ (v12 : Value).ownBlock)) HF0.out hba hb) (fun k_ hk_ => ⟨hk_.1.1, hk_.1.2, hk_.2⟩) : Kd.F (Kd.int .i32) _ (fun k_ => (P_ k_ ∨ w.heap.size ≤ k_) ∧ some k_ ≠ (v12 : Value).ownBlock ∧ some k_ ≠ (v16 : Value).ownBlock) _ _ _)
    replace HN12 := Aside0.mk (Kd.N_mono (Kd.N_elder' (ok := (fun k_ => (P_ k_ ∨ w.heap.size ≤ k_))) HN12.out hba hb) (fun k_ hk_ => ⟨hk_.1, hk_.2⟩) : Kd.N (Kd.slice 21 (Kd.int .i32)) _ _ _ (fun k_ => (P_ k_ ∨ w.heap.size ≤ k_) ∧ some k_ ≠ (v16 : Value).ownBlock) _ _)
    replace HB := Aside0.mk (below_step HB.out hb)
    clear hn16 hba hb
    obtain ⟨A17, cp18, he_⟩ := Kd.N_slice HN12.out
    subst he_
    obtain ⟨A19, cp20, he_⟩ := Kd.N_slice HN16.out
    subst he_
    by_cases c21 : (t9.length : Int) = (t13.length : Int)
    · have H := HH.out
      rw [if_pos c21] at H
      replace HH := Aside0.mk H
      clear H
      have hk22 : ((t9.length : Int) == (t13.length : Int)) = true := beq_iff_eq.mpr c21
      have hk23 : ((t9.length : Int) != (t13.length : Int)) = false := bne_eq_false_iff_eq.mpr c21
      have hk24 : (t9.length == t13.length) = true := by first | simpa using c21 | (simp at c21 ⊢; omega)
      clear c21
      have HL28 := Aside0.mk (Kd.N_reads' HN12.out).2.1
      have HF27 := Aside0.mk (Kd.N_F HN12.out)
      clear HN12
      replace HN16 := Aside0.mk (Kd.N_mono (ok := (fun k_ => (P_ k_ ∨ w.heap.size ≤ k_) ∧ some k_ ≠ ((.slice A17 t9.length cp18) : Value).ownBlock)) HN16.out (fun k_ hk_ => hk_.1) : Kd.N (Kd.slice 21 (Kd.int .i32)) _ _ _ (fun k_ => (P_ k_ ∨ w.heap.size ≤ k_)) _ _)
      have HL32 := Aside0.mk (Kd.N_reads' HN16.out).2.1
      have HF31 := Aside0.mk (Kd.N_F HN16.out)
      clear HN16
      replace HF27 := Aside0.mk (Kd.F_mono (ok := (fun k_ => (P_ k_ ∨ w.heap.size ≤ k_) ∧ some k_ ≠ ((.slice A19 t13.length cp20) : Value).ownBlock)) HF27.out (fun k_ hk_ => hk_.1) : Kd.F (Kd.slice 21 (Kd.int .i32)) _ (fun k_ => (P_ k_ ∨ w.heap.size ≤ k_)) _ _ _)
      go_wp2
      go_loopg [5] k (fun kq u5 w' => ∃ (x33 : Int), u5 = .int .i64 x33 ∧ Aside0 ((toponymlaw06_ArrangeRuns.l0 kq x33 t13 t9) = some r) ∧ Aside0 (kq ≤ k) ∧ Aside0 (Kd.F (Kd.slice 21 (Kd.int .i32)) w' (fun k_ => (P_ k_ ∨ w.heap.size ≤ k_)) A17 t9.length t9) ∧ Aside0 (Kd.F (Kd.slice 21 (Kd.int .i32)) w' (fun k_ => (P_ k_ ∨ w.heap.size ≤ k_)) A19 t13.length t13) ∧ Aside0 (Below w.heap.size w w'))
      case atStart => exact ⟨0, (by first | rfl | (simp; done) | (simp [*]; done)), HH, ⟨Nat.le_refl _⟩, ⟨(Kd.F_mono (ok := (fun k_ => (P_ k_ ∨ w.heap.size ≤ k_))) HF27.out (fun k_ hk_ => hk_))⟩, ⟨(Kd.F_mono (ok := (fun k_ => (P_ k_ ∨ w.heap.size ≤ k_))) HF31.out (fun k_ hk_ => hk_))⟩, ⟨HB.out⟩⟩
      case round =>
        clear hk7
        clear hk8
        clear hk22
        clear hk23
        clear hk24
        clear HH
        clear HF27 HF31 HB
        obtain ⟨x33, rfl, HA, HK0, HF27, HF31, HB⟩ := hrel
        obtain ⟨w35, rfl⟩ : ∃ wo_ : World, wo_ = wr := ⟨_, rfl⟩
        cases gk with
        | zero => exact absurd HA.out (by simp [toponymlaw06_ArrangeRuns.l0])
        | succ k34 =>
          have H := HA.out
          clear HA
          simp only [toponymlaw06_ArrangeRuns.l0] at H
          have HH := Aside0.mk H
          clear H
          by_cases c36 : x33 < (t9.length : Int)
          · have H := HH.out
            rw [if_pos c36] at H
            replace HH := Aside0.mk H
            clear H
            have hk37 : (x33 < (t9.length : Int)) = True := eq_true c36
            have hk38 : decide (x33 < (t9.length : Int)) = true := decide_eq_true c36
            clear c36
            by_cases c39 : 0 ≤ x33
            · have H := HH.out
              rw [if_pos c39] at H
              replace HH := Aside0.mk H
              clear H
              have hk40 : decide (0 ≤ x33) = true := decide_eq_true c39
              clear c39
              have p41 : 0 ≤ (x33 : Int) := of_decide_eq_true (by first | (with_reducible assumption) | assumption)
              have q41 : x33 < (t9.length : Int) := of_decide_eq_true (by first | (with_reducible assumption) | assumption)
              obtain ⟨ad41, A41_0, c41_0, e41, hx41_0, hl41_0, hi41_0⟩ := atF_L1 HF27.out x33 p41 q41
              cases e41
              have HF41_0 := Aside0.mk hi41_0
              have HL41_0 := Aside0.mk hl41_0
              clear hi41_0 hl41_0
              replace p41 := eq_true p41
              replace q41 := eq_true q41
              by_cases c42 : x33 < (t13.length : Int)
              · have H := HH.out
                rw [if_pos c42] at H
                replace HH := Aside0.mk H
                clear H
                have hk43 : (x33 < (t13.length : Int)) = True := eq_true c42
                have hk44 : decide (x33 < (t13.length : Int)) = true := decide_eq_true c42
                clear c42
                have p45 : 0 ≤ (x33 : Int) := of_decide_eq_true (by first | (with_reducible assumption) | assumption)
                have q45 : x33 < (t13.length : Int) := of_decide_eq_true (by first | (with_reducible assumption) | assumption)
                obtain ⟨ad45, A45_0, c45_0, e45, hx45_0, hl45_0, hi45_0⟩ := atF_L1 HF31.out x33 p45 q45
                cases e45
                have HF45_0 := Aside0.mk hi45_0
                have HL45_0 := Aside0.mk hl45_0
                clear hi45_0 hl45_0
                replace p45 := eq_true p45
                replace q45 := eq_true q45
                have H := HH.out
                replace H := Option.bind_eq_some_iff.mp H
                obtain ⟨t46, at_, H⟩ := H
                have At47 := Aside0.mk at_
                clear at_
                replace HH := Aside0.mk (show (if t46 = true then ((toponymlaw06_ArrangeRuns.l0 k34 (wrap64 (x33 + 1)) t13 t9)) else (some false)) = some r from H)
                clear H
                by_cases c48 : t46 = true
                · have H := HH.out
                  rw [if_pos c48] at H
                  replace HH := Aside0.mk H
                  clear H
                  subst c48
                  go_wp2
                  go_quiet ((first | (go_at_call 8; first | exact Calls.quiet_of (MW.drawn (toponymref01_Same.calls k34 (fun k_ => (P_ k_ ∨ w.heap.size ≤ k_)) _ _ (rd_L1 t9 x33) _ _ (rd_L1 t13 x33) true _ (Kd.F_mono (ok := (fun k_ => (P_ k_ ∨ w.heap.size ≤ k_))) HF41_0.out (fun k_ hk_ => hk_)) HL41_0.out (Kd.F_mono (ok := (fun k_ => (P_ k_ ∨ w.heap.size ≤ k_))) HF45_0.out (fun k_ hk_ => hk_)) HL45_0.out At47.out)) | exact MW.quiet_far (MW.drawn (toponymref01_Same.calls k34 (fun k_ => (P_ k_ ∨ w.heap.size ≤ k_)) _ _ (rd_L1 t9 x33) _ _ (rd_L1 t13 x33) true _ (Kd.F_mono (ok := (fun k_ => (P_ k_ ∨ w.heap.size ≤ k_))) HF41_0.out (fun k_ hk_ => hk_)) HL41_0.out (Kd.F_mono (ok := (fun k_ => (P_ k_ ∨ w.heap.size ≤ k_))) HF45_0.out (fun k_ hk_ => hk_)) HL45_0.out At47.out)))))
                  go_wp2
                  go_roundg k34
                  case measure => have := HK0.out; omega
                  case rel => exact ⟨wrap64 (x33 + 1), (by first | rfl | (simp; done) | (simp [*]; done)), HH, ⟨by have := HK0.out; omega⟩, ⟨(Kd.F_mono (ok := (fun k_ => (P_ k_ ∨ w.heap.size ≤ k_))) (by (with_reducible repeat (first | apply Kd.F_alloc | apply Kd.F_drewN | apply Kd.F_drew)); exact HF27.out) (fun k_ hk_ => hk_))⟩, ⟨(Kd.F_mono (ok := (fun k_ => (P_ k_ ∨ w.heap.size ≤ k_))) (by (with_reducible repeat (first | apply Kd.F_alloc | apply Kd.F_drewN | apply Kd.F_drew)); exact HF31.out) (fun k_ hk_ => hk_))⟩, ⟨(by repeat (first | (with_reducible first | exact HB.out | apply below_alloc | apply pw_below_drewN | apply below_drew1) | exact HB.out))⟩⟩
                · have H := HH.out
                  rw [if_neg c48] at H
                  replace HH := Aside0.mk H
                  clear H
                  replace c48 := Bool.eq_false_iff.mpr c48
                  subst c48
                  have H := HH.out
                  obtain rfl := Option.some.inj H
                  clear HH
                  go_wp2
                  go_quiet ((first | (go_at_call 8; first | exact Calls.quiet_of (MW.drawn (toponymref01_Same.calls k34 (fun k_ => (P_ k_ ∨ w.heap.size ≤ k_)) _ _ (rd_L1 t9 x33) _ _ (rd_L1 t13 x33) false _ (Kd.F_mono (ok := (fun k_ => (P_ k_ ∨ w.heap.size ≤ k_))) HF41_0.out (fun k_ hk_ => hk_)) HL41_0.out (Kd.F_mono (ok := (fun k_ => (P_ k_ ∨ w.heap.size ≤ k_))) HF45_0.out (fun k_ hk_ => hk_)) HL45_0.out At47.out)) | exact MW.quiet_far (MW.drawn (toponymref01_Same.calls k34 (fun k_ => (P_ k_ ∨ w.heap.size ≤ k_)) _ _ (rd_L1 t9 x33) _ _ (rd_L1 t13 x33) false _ (Kd.F_mono (ok := (fun k_ => (P_ k_ ∨ w.heap.size ≤ k_))) HF41_0.out (fun k_ hk_ => hk_)) HL41_0.out (Kd.F_mono (ok := (fun k_ => (P_ k_ ∨ w.heap.size ≤ k_))) HF45_0.out (fun k_ hk_ => hk_)) HL45_0.out At47.out)))))
                  go_wp2
                  go_ret
                  exact ⟨by first | rfl | (simp; done) | (simp [*]; done), (by repeat (first | (with_reducible first | exact HB.out | apply below_alloc | apply pw_below_drewN | apply below_drew1) | exact HB.out))⟩
              · exact absurd HH.out (by rw [if_neg c42]; simp)
            · exact absurd HH.out (by rw [if_neg c39]; simp)
          · have H := HH.out
            rw [if_neg c36] at H
            replace HH := Aside0.mk H
            clear H
            have hk52 : (x33 < (t9.length : Int)) = False := eq_false c36
            have hk53 : decide (x33 < (t9.length : Int)) = false := decide_eq_false c36
            clear c36
            have H := HH.out
            replace H := Option.bind_eq_some_iff.mp H
            obtain ⟨t54, at_, H⟩ := H
            have At55 := Aside0.mk at_
            clear at_
            replace HH := Aside0.mk (show (some t54) = some r from H)
            clear H
            go_wp2_with (((with_reducible refine gate_callee (f := 7) rfl ?_); (try (refine gate_guard (by rfl) ?_; dsimp only)); refine goesL_ (some 35) rfl rfl Try.func7 (by kernel_rfl) rfl #[] rfl (by (try simp only [List.map_toArray, List.map_cons, List.map_nil]); first | done | rfl | (simp only [List.length_drop, List.length_take]; rfl)) ?_; (with_reducible refine (toponymlaw06_awake.calls k34  t54 _  At55.out).mono ?_); rintro e w56 ⟨rfl, hb⟩; refine ⟨_, rfl, ?_⟩); refine stop_ ?_)
            refine Stop.go ?_
            replace HF27 := Aside0.mk (Kd.F_below HF27.out hb)
            replace HF31 := Aside0.mk (Kd.F_below HF31.out hb)
            replace HB := Aside0.mk (below_step HB.out hb)
            clear hb
            have H := HH.out
            obtain rfl := Option.some.inj H
            clear HH
            go_wp2
            go_ret
            exact ⟨by first | rfl | (simp; done) | (simp [*]; done), HB.out⟩
    · have H := HH.out
      rw [if_neg c21] at H
      replace HH := Aside0.mk H
      clear H
      have hk57 : ((t9.length : Int) == (t13.length : Int)) = false := beq_eq_false_iff_ne.mpr c21
      have hk58 : ((t9.length : Int) != (t13.length : Int)) = true := bne_iff_ne.mpr c21
      have hk59 : (t9.length == t13.length) = false := by first | simpa using c21 | (simp at c21 ⊢; omega)
      clear c21
      have H := HH.out
      obtain rfl := Option.some.inj H
      clear HH
      go_wp2
      go_ret
      exact ⟨by first | rfl | (simp; done) | (simp [*]; done), HB.out⟩

end Go.Proofs.Ythdcofcikmeeeaa.GA
