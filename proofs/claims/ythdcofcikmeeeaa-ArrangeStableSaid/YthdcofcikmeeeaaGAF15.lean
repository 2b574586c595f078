-- written by wip/gen.py, a program of this session
import Derived.Test.YthdcofcikmeeeaaGA0
import Derived.Test.YthdcofcikmeeeaaGAF16
namespace Go.Proofs.Ythdcofcikmeeeaa.GA
open Go.RowKit Go.Proofs.Ythdcofcikmeeeaa Go.Proofs.Ythdcofcikmeeeaa.MW Go.Proofs.YthdcofcikmeeeaaW.PrintWords Go.Proofs.YthdcofcikmeeeaaW.PrintLast Go.Proofs.YthdcofcikmeeeaaW.PrintMore
attribute [local go_sem] max2_int min2_int max_two min_two
set_option linter.unusedVariables false
set_option linter.unusedSimpArgs false

/-! ### toponymlaw06_of: function 15 -/
def toponymlaw06_of.l0 : Nat → (List Int) → Int → Int → (List Int) → Option (List Int)
  | 0, _, _, _, _ => none
  | k + 1, x1, x4, a1, l0 => if x4 < (l0.length : Int) then (if 0 ≤ x4 then ((chars_Class.f (rd l0 x4)).bind fun t13 => (if t13 = a1 then (if x1.length < 35184372088832 then ((some (x1 ++ [rd l0 x4] : List Int)).bind fun y20 => ((toponymlaw06_of.l0 k y20 (wrap64 (x4 + 1)) a1 l0))) else (none)) else ((toponymlaw06_of.l0 k x1 (wrap64 (x4 + 1)) a1 l0)))) else (none)) else (some x1)
def toponymlaw06_of.f (k : Nat) (l0 : List Int) (a1 : Int) : Option (List Int) := (toponymlaw06_of.l0 k ([] : List Int) 0 a1 l0)
theorem toponymlaw06_of.mono_l : ∀ k, (∀ y0 y1 y2 y3, LeO (toponymlaw06_of.l0 k y0 y1 y2 y3) (toponymlaw06_of.l0 (k + 1) y0 y1 y2 y3))
  | 0 => fun _ _ _ _ r h => by simp [toponymlaw06_of.l0] at h
  | k + 1 => by
    have ih0 := toponymlaw06_of.mono_l k
    · intro y0 y1 y2 y3
      unfold toponymlaw06_of.l0
      repeat' first
      | (with_reducible exact ih0 _ _ _ _)
      | (with_reducible exact LeO.refl _)
      | (with_reducible exact LeO.none _)
      | (with_reducible refine LeO.ite ?_ ?_)
      | (with_reducible refine LeO.bind ?_ (fun _ => ?_))
      | exact ih0 _ _ _ _
      | exact LeO.none _
      | refine LeO.ite ?_ ?_
      | refine LeO.bind ?_ (fun _ => ?_)
theorem toponymlaw06_of.mono : ∀ a0_ a1_ k, LeO (toponymlaw06_of.f k a0_ a1_) (toponymlaw06_of.f (k + 1) a0_ a1_) := by
  intro a0_ a1_ k
  have ih0 := toponymlaw06_of.mono_l k
  unfold toponymlaw06_of.f
  repeat' first
      | (with_reducible exact ih0 _ _ _ _)
      | (with_reducible exact LeO.refl _)
      | (with_reducible exact LeO.none _)
      | (with_reducible refine LeO.ite ?_ ?_)
      | (with_reducible refine LeO.bind ?_ (fun _ => ?_))
      | exact ih0 _ _ _ _
      | exact LeO.none _
      | refine LeO.ite ?_ ?_
      | refine LeO.bind ?_ (fun _ => ?_)
set_option maxHeartbeats 8000000 in
set_option maxRecDepth 100000 in
theorem toponymlaw06_of.calls (k : Nat) (P_ : Nat → Prop) (A0 : Option Addr) (c0 : Nat) (l0 : List Int) (a1 : Int) (r : List Int) (w : World) (hs0 : Kd.F (Kd.int .i32) w P_ A0 l0.length l0) (hc0 : l0.length ≤ c0) (h : toponymlaw06_of.f k l0 a1 = some r) :
    Calls Try.prog 15 #[.slice A0 l0.length c0, .int .i64 a1] w (fun e w' => ∃ v0_ : Value, e = .returned (v0_) ∧ Kd.N (Kd.int .i32) 21 w' w.heap.size (fun k_ => P_ k_ ∨ w.heap.size ≤ k_) v0_ r ∧ Below w.heap.size w w') := by
  have HH := Aside0.mk (show ((toponymlaw06_of.l0 k ([] : List Int) 0 a1 l0)) = some r from h)
  clear h
  have HF0 := Aside0.mk (Kd.F_mono hs0 (fun k_ hk_ => (.inl hk_ : P_ k_ ∨ w.heap.size ≤ k_)))
  have HL0 := Aside0.mk hc0
  clear hs0 hc0
  have HB := Aside0.mk (Below.refl w.heap.size w)
  go_enter Try.func15, Try.ntmps15
  go_wp2
  go_loopg [5, 6] k (fun kq u5 u6 w' => ∃ (x1 : List Int) (x4 : Int), u6 = .int .i64 x4 ∧ Aside0 ((toponymlaw06_of.l0 kq x1 x4 a1 l0) = some r) ∧ Aside0 (kq ≤ k) ∧ Aside0 (Kd.F (Kd.int .i32) w' (fun k_ => (P_ k_ ∨ w.heap.size ≤ k_) ∧ some k_ ≠ (u5 : Value).ownBlock) A0 l0.length l0) ∧ Aside0 (Kd.N (Kd.int .i32) 21 w' w.heap.size (fun k_ => (P_ k_ ∨ w.heap.size ≤ k_)) u5 x1) ∧ Aside0 (Below w.heap.size w w'))
  case atStart => exact ⟨([] : List Int), 0, (by first | rfl | (simp; done) | (simp [*]; done)), HH, ⟨Nat.le_refl _⟩, ⟨(Kd.F_mono (ok := (fun k_ => (P_ k_ ∨ w.heap.size ≤ k_))) HF0.out (fun k_ hk_ => ⟨hk_, (by simp [Value.ownBlock])⟩))⟩, ⟨Kd.N_nil _ _ _ _ _⟩, ⟨HB.out⟩⟩
  case round =>
    clear HH
    clear HF0 HB
    obtain ⟨x1, x4, rfl, HA, HK0, HF0, HN3, HB⟩ := hrel
    obtain ⟨v2, rfl⟩ : ∃ z_ : Value, z_ = u5 := ⟨_, rfl⟩
    obtain ⟨w6, rfl⟩ : ∃ wo_ : World, wo_ = wr := ⟨_, rfl⟩
    cases gk with
    | zero => exact absurd HA.out (by simp [toponymlaw06_of.l0])
    | succ k5 =>
      have H := HA.out
      clear HA
      simp only [toponymlaw06_of.l0] at H
      have HH := Aside0.mk H
      clear H
      by_cases c7 : x4 < (l0.length : Int)
      · have H := HH.out
        rw [if_pos c7] at H
        replace HH := Aside0.mk H
        clear H
        have hk8 : (x4 < (l0.length : Int)) = True := eq_true c7
        have hk9 : decide (x4 < (l0.length : Int)) = true := decide_eq_true c7
        clear c7
        by_cases c10 : 0 ≤ x4
        · have H := HH.out
          rw [if_pos c10] at H
          replace HH := Aside0.mk H
          clear H
          have hk11 : decide (0 ≤ x4) = true := decide_eq_true c10
          clear c10
          have p12 : 0 ≤ (x4 : Int) := of_decide_eq_true (by first | (with_reducible assumption) | assumption)
          have q12 : x4 < (l0.length : Int) := of_decide_eq_true (by first | (with_reducible assumption) | assumption)
          obtain ⟨ad12, e12, hx12_0⟩ := Kd.at_int (Kd.F_now HF0.out) x4 p12 q12
          cases e12
          replace p12 := eq_true p12
          replace q12 := eq_true q12
          have H := HH.out
          replace H := Option.bind_eq_some_iff.mp H
          obtain ⟨t13, at_, H⟩ := H
          have At14 := Aside0.mk at_
          clear at_
          replace HH := Aside0.mk (show (if t13 = a1 then (if x1.length < 35184372088832 then ((some (x1 ++ [rd l0 x4] : List Int)).bind fun y20 => ((toponymlaw06_of.l0 k5 y20 (wrap64 (x4 + 1)) a1 l0))) else (none)) else ((toponymlaw06_of.l0 k5 x1 (wrap64 (x4 + 1)) a1 l0))) = some r from H)
          clear H
          go_wp2_with (((with_reducible refine gate_callee (f := 16) rfl ?_); (try (refine gate_guard (by rfl) ?_; dsimp only)); refine goesL_ (some 17) rfl rfl Try.func16 (by kernel_rfl) rfl #[.int .i32 (rd l0 x4)] rfl (by (try simp only [List.map_toArray, List.map_cons, List.map_nil]); first | done | rfl | (simp only [List.length_drop, List.length_take]; rfl)) ?_; (with_reducible refine (chars_Class.calls  (rd l0 x4) t13 _  At14.out).mono ?_); rintro e w' ⟨rfl, ⟨nd, rfl⟩⟩; refine ⟨_, rfl, ?_⟩); refine stop_ ?_)
          refine Stop.go ?_
          by_cases c16 : t13 = a1
          · have H := HH.out
            rw [if_pos c16] at H
            replace HH := Aside0.mk H
            clear H
            have hk17 : (t13 == a1) = true := beq_iff_eq.mpr c16
            have hk18 : (t13 != a1) = false := bne_eq_false_iff_eq.mpr c16
            clear c16
            by_cases c19 : x1.length < 35184372088832
            · have H := HH.out
              rw [if_pos c19] at H
              replace HH := Aside0.mk H
              clear H
              have LMc19 := Aside0.mk c19
              clear c19
              obtain ⟨y20, hy20⟩ : ∃ y_ : List Int, y_ = (x1 ++ [rd l0 x4]) := ⟨_, rfl⟩
              have H : ((toponymlaw06_of.l0 k5 y20 (wrap64 (x4 + 1)) a1 l0)) = some r := by rw [hy20]; exact HH.out
              replace HH := Aside0.mk H
              clear H
              have NYy20 := Aside0.mk hy20
              clear hy20
              go_wp2_with (((with_reducible refine gate_dst (N := 26) rfl ?_); (try (refine gate_guard (by rfl) ?_; dsimp only)); refine Kd.N_append (Kd.int .i32) w.heap.size rfl _ _ 22 21 (.int .i32 0) 4 rfl Try.underlying22 info21 rfl (by decide) (by decide) (v2) x1 (rd l0 x4) [.int .i32 (rd l0 x4)] (fun k_ => (P_ k_ ∨ w.heap.size ≤ k_)) (fun k_ => (fun k_ => (P_ k_ ∨ w.heap.size ≤ k_)) k_ ∧ some k_ ≠ (v2 : Value).ownBlock) rfl rfl (fun _ _ => rfl) (fun _ hk_ => hk_) (fun k_ h_ => .inr (Nat.le_trans (below_size (by repeat (first | (with_reducible first | exact HB.out | apply below_alloc | apply pw_below_drewN | apply below_drew1) | exact HB.out))) h_)) (by (with_reducible repeat (first | apply Kd.N_alloc | apply Kd.N_drewN | apply Kd.N_drew)); exact HN3.out) (by repeat (first | (with_reducible first | exact HB.out | apply below_alloc | apply pw_below_drewN | apply below_drew1) | exact HB.out)) (below_size (by repeat (first | (with_reducible first | exact HB.out | apply below_alloc | apply pw_below_drewN | apply below_drew1) | exact HB.out))) (by first | (have := LMc19.out; omega) | (have := LMc19.out; simp at *; omega)) ?_; intro v21 w22 hn1 hb1 hg1 hat1); replace hat1 := Aside0.mk hat1; refine stop_ ?_)
              refine Stop.go ?_
              replace hat1 := hat1.out
              replace HF0 := Aside0.mk (Kd.F_mono (Kd.F_after (v := v2) (ok := (fun k_ => (P_ k_ ∨ w.heap.size ≤ k_))) (Kd.F_mono (ok := (fun k_ => (P_ k_ ∨ w.heap.size ≤ k_) ∧ some k_ ≠ (v2 : Value).ownBlock)) (by (with_reducible repeat (first | apply Kd.F_alloc | apply Kd.F_drewN | apply Kd.F_drew)); exact HF0.out) (fun k_ hk_ => ⟨hk_.1, hk_.2⟩)) hg1 hat1) (fun k_ hk_ => ⟨hk_.1, hk_.2⟩) : Kd.F (Kd.int .i32) _ (fun k_ => (P_ k_ ∨ w.heap.size ≤ k_) ∧ some k_ ≠ (v21 : Value).ownBlock) _ _ _)
              replace HB := Aside0.mk hb1
              clear HN3
              have HN23 := Aside0.mk hn1
              clear hn1 hb1 hg1 hat1
              replace HN23 := Aside0.mk (by rw [NYy20.out]; exact HN23.out : Kd.N (Kd.int .i32) 21 w22 w.heap.size (fun k_ => (P_ k_ ∨ w.heap.size ≤ k_)) v21 y20)
              clear hx12_0 p12 q12
              go_wp2
              go_roundg k5
              case measure => have := HK0.out; omega
              case rel => exact ⟨y20, wrap64 (x4 + 1), (by first | rfl | (simp; done) | (simp [*]; done)), HH, ⟨by have := HK0.out; omega⟩, ⟨(Kd.F_mono (ok := (fun k_ => (P_ k_ ∨ w.heap.size ≤ k_) ∧ some k_ ≠ (v21 : Value).ownBlock)) HF0.out (fun k_ hk_ => ⟨hk_.1, hk_.2⟩))⟩, ⟨(Kd.N_mono (ok := (fun k_ => (P_ k_ ∨ w.heap.size ≤ k_))) HN23.out (fun k_ hk_ => hk_))⟩, ⟨HB.out⟩⟩
            · exact absurd HH.out (by rw [if_neg c19]; simp)
          · have H := HH.out
            rw [if_neg c16] at H
            replace HH := Aside0.mk H
            clear H
            have hk24 : (t13 == a1) = false := beq_eq_false_iff_ne.mpr c16
            have hk25 : (t13 != a1) = true := bne_iff_ne.mpr c16
            clear c16
            go_wp2
            go_roundg k5
            case measure => have := HK0.out; omega
            case rel => exact ⟨x1, wrap64 (x4 + 1), (by first | rfl | (simp; done) | (simp [*]; done)), HH, ⟨by have := HK0.out; omega⟩, ⟨(Kd.F_mono (ok := (fun k_ => (P_ k_ ∨ w.heap.size ≤ k_) ∧ some k_ ≠ (v2 : Value).ownBlock)) (by (with_reducible repeat (first | apply Kd.F_alloc | apply Kd.F_drewN | apply Kd.F_drew)); exact HF0.out) (fun k_ hk_ => ⟨hk_.1, hk_.2⟩))⟩, ⟨(Kd.N_mono (ok := (fun k_ => (P_ k_ ∨ w.heap.size ≤ k_))) (by (with_reducible repeat (first | apply Kd.N_alloc | apply Kd.N_drewN | apply Kd.N_drew)); exact HN3.out) (fun k_ hk_ => hk_))⟩, ⟨(by repeat (first | (with_reducible first | exact HB.out | apply below_alloc | apply pw_below_drewN | apply below_drew1) | exact HB.out))⟩⟩
        · exact absurd HH.out (by rw [if_neg c10]; simp)
      · have H := HH.out
        rw [if_neg c7] at H
        replace HH := Aside0.mk H
        clear H
        have hk27 : (x4 < (l0.length : Int)) = False := eq_false c7
        have hk28 : decide (x4 < (l0.length : Int)) = false := decide_eq_false c7
        clear c7
        have H := HH.out
        obtain rfl := Option.some.inj H
        clear HH
        go_wp2
        go_ret
        exact ⟨_, by first | rfl | (simp; done) | (simp [*]; done), (Kd.N_mono (ok := (fun k_ => (P_ k_ ∨ w.heap.size ≤ k_))) HN3.out (fun k_ hk_ => hk_)), HB.out⟩

end Go.Proofs.Ythdcofcikmeeeaa.GA
