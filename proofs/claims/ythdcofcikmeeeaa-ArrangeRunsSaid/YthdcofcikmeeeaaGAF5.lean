-- written by wip/gen.py, a program of this session
import Derived.Test.YthdcofcikmeeeaaGA0
import Derived.Test.YthdcofcikmeeeaaGAF11
import Derived.Test.YthdcofcikmeeeaaGAF15
import Derived.Test.YthdcofcikmeeeaaGAF7
import Derived.Test.YthdcofcikmeeeaaGAF8
import Derived.Test.YthdcofcikmeeeaaGAF9
namespace Go.Proofs.Ythdcofcikmeeeaa.GA
open Go.RowKit Go.Proofs.Ythdcofcikmeeeaa Go.Proofs.Ythdcofcikmeeeaa.MW Go.Proofs.YthdcofcikmeeeaaW.PrintWords Go.Proofs.YthdcofcikmeeeaaW.PrintLast Go.Proofs.YthdcofcikmeeeaaW.PrintMore
attribute [local go_sem] max2_int min2_int max_two min_two
set_option linter.unusedVariables false
set_option linter.unusedSimpArgs false

/-! ### toponymlaw06_ArrangeStable: function 5 -/
def toponymlaw06_ArrangeStable.f (k : Nat) (l0 : List Int) (a1 : Int) : Option (Bool) := if (l0.length : Int) > 400 then ((toponymlaw06_awake.f k ).bind fun t4 => (some t4)) else ((arrange_Order.f k l0).bind fun t9 => ((arrange_Ordered.f k t9).bind fun t17 => (if t17 = true then ((arrange_Order.f k t9).bind fun t21 => ((toponymref01_Same.f k t21 t9).bind fun t29 => (if t29 = true then (if (t9.length : Int) = (l0.length : Int) then ((arrange_Ordered.f k l0).bind fun t37 => ((toponymref01_Same.f k t9 l0).bind fun t40 => (if (t37 == t40) = true then ((toponymlaw06_of.f k t9 a1).bind fun t47 => ((toponymlaw06_of.f k l0 a1).bind fun t51 => ((toponymref01_Same.f k t47 t51).bind fun t63 => (if t63 = true then ((toponymlaw06_awake.f k ).bind fun t67 => (some t67)) else (some false))))) else (some false)))) else (some false)) else (some false)))) else (some false))))
theorem toponymlaw06_ArrangeStable.mono : ∀ a0_ a1_ k, LeO (toponymlaw06_ArrangeStable.f k a0_ a1_) (toponymlaw06_ArrangeStable.f (k + 1) a0_ a1_) := by
  intro a0_ a1_ k
  unfold toponymlaw06_ArrangeStable.f
  repeat' first
      | (with_reducible exact arrange_Order.mono _ _)
      | (with_reducible exact arrange_Ordered.mono _ _)
      | (with_reducible exact toponymlaw06_awake.mono _)
      | (with_reducible exact toponymlaw06_of.mono _ _ _)
      | (with_reducible exact toponymref01_Same.mono _ _ _)
      | (with_reducible exact LeO.refl _)
      | (with_reducible exact LeO.none _)
      | (with_reducible refine LeO.ite ?_ ?_)
      | (with_reducible refine LeO.bind ?_ (fun _ => ?_))
      | exact arrange_Order.mono _ _
      | exact arrange_Ordered.mono _ _
      | exact toponymlaw06_awake.mono _
      | exact toponymlaw06_of.mono _ _ _
      | exact toponymref01_Same.mono _ _ _
      | exact LeO.none _
      | refine LeO.ite ?_ ?_
      | refine LeO.bind ?_ (fun _ => ?_)
set_option maxHeartbeats 8000000 in
set_option maxRecDepth 100000 in
theorem toponymlaw06_ArrangeStable.calls (k : Nat) (P_ : Nat → Prop) (A0 : Option Addr) (c0 : Nat) (l0 : List Int) (a1 : Int) (r : Bool) (w : World) (hs0 : Kd.F (Kd.int .i32) w P_ A0 l0.length l0) (hc0 : l0.length ≤ c0) (h : toponymlaw06_ArrangeStable.f k l0 a1 = some r) :
    Calls Try.prog 5 #[.slice A0 l0.length c0, .int .i64 a1] w (fun e w' => e = .returned (.bool r) ∧ Below w.heap.size w w') := by
  have HH := Aside0.mk (show (if (l0.length : Int) > 400 then ((toponymlaw06_awake.f k ).bind fun t4 => (some t4)) else ((arrange_Order.f k l0).bind fun t9 => ((arrange_Ordered.f k t9).bind fun t17 => (if t17 = true then ((arrange_Order.f k t9).bind fun t21 => ((toponymref01_Same.f k t21 t9).bind fun t29 => (if t29 = true then (if (t9.length : Int) = (l0.length : Int) then ((arrange_Ordered.f k l0).bind fun t37 => ((toponymref01_Same.f k t9 l0).bind fun t40 => (if (t37 == t40) = true then ((toponymlaw06_of.f k t9 a1).bind fun t47 => ((toponymlaw06_of.f k l0 a1).bind fun t51 => ((toponymref01_Same.f k t47 t51).bind fun t63 => (if t63 = true then ((toponymlaw06_awake.f k ).bind fun t67 => (some t67)) else (some false))))) else (some false)))) else (some false)) else (some false)))) else (some false))))) = some r from h)
  clear h
  have HF0 := Aside0.mk (Kd.F_mono hs0 (fun k_ hk_ => (.inl hk_ : P_ k_ ∨ w.heap.size ≤ k_)))
  have HL0 := Aside0.mk hc0
  clear hs0 hc0
  have HB := Aside0.mk (Below.refl w.heap.size w)
  go_enter Try.func5, Try.ntmps5
  by_cases c1 : (l0.length : Int) > 400
  · have H := HH.out
    rw [if_pos c1] at H
    replace HH := Aside0.mk H
    clear H
    have hk2 : decide (400 < (l0.length : Int)) = true := decide_eq_true c1
    have hk3 : decide (400 < l0.length) = true := decide_eq_true (by omega)
    clear c1
    have H := HH.out
    replace H := Option.bind_eq_some_iff.mp H
    obtain ⟨t4, at_, H⟩ := H
    have At5 := Aside0.mk at_
    clear at_
    replace HH := Aside0.mk (show (some t4) = some r from H)
    clear H
    go_wp2_with (((with_reducible refine gate_callee (f := 7) rfl ?_); (try (refine gate_guard (by rfl) ?_; dsimp only)); refine goesL_ (some 9) rfl rfl Try.func7 (by kernel_rfl) rfl #[] rfl (by (try simp only [List.map_toArray, List.map_cons, List.map_nil]); first | done | rfl | (simp only [List.length_drop, List.length_take]; rfl)) ?_; (with_reducible refine (toponymlaw06_awake.calls k  t4 _  At5.out).mono ?_); rintro e w6 ⟨rfl, hb⟩; refine ⟨_, rfl, ?_⟩); refine stop_ ?_)
    refine Stop.go ?_
    replace HF0 := Aside0.mk (Kd.F_below HF0.out hb)
    replace HB := Aside0.mk (below_step HB.out hb)
    clear hb
    have H := HH.out
    obtain rfl := Option.some.inj H
    clear HH
    go_wp2
    go_ret
    exact ⟨by first | rfl | (simp; done) | (simp [*]; done), HB.out⟩
  · have H := HH.out
    rw [if_neg c1] at H
    replace HH := Aside0.mk H
    clear H
    have hk7 : decide (400 < (l0.length : Int)) = false := decide_eq_false c1
    have hk8 : decide (400 < l0.length) = false := decide_eq_false (by omega)
    clear c1
    have H := HH.out
    replace H := Option.bind_eq_some_iff.mp H
    obtain ⟨t9, at_, H⟩ := H
    have At10 := Aside0.mk at_
    clear at_
    replace HH := Aside0.mk (show ((arrange_Ordered.f k t9).bind fun t17 => (if t17 = true then ((arrange_Order.f k t9).bind fun t21 => ((toponymref01_Same.f k t21 t9).bind fun t29 => (if t29 = true then (if (t9.length : Int) = (l0.length : Int) then ((arrange_Ordered.f k l0).bind fun t37 => ((toponymref01_Same.f k t9 l0).bind fun t40 => (if (t37 == t40) = true then ((toponymlaw06_of.f k t9 a1).bind fun t47 => ((toponymlaw06_of.f k l0 a1).bind fun t51 => ((toponymref01_Same.f k t47 t51).bind fun t63 => (if t63 = true then ((toponymlaw06_awake.f k ).bind fun t67 => (some t67)) else (some false))))) else (some false)))) else (some false)) else (some false)))) else (some false))) = some r from H)
    clear H
    go_wp2_with (((with_reducible refine gate_callee (f := 9) rfl ?_); (try (refine gate_guard (by rfl) ?_; dsimp only)); refine goesL_ (some 11) rfl rfl Try.func9 (by kernel_rfl) rfl #[.slice A0 l0.length c0] rfl (by (try simp only [List.map_toArray, List.map_cons, List.map_nil]); first | done | rfl | (simp only [List.length_drop, List.length_take]; rfl)) ?_; (with_reducible refine (arrange_Order.calls k (fun k_ => (P_ k_ ∨ w.heap.size ≤ k_)) _ _ l0 t9 _ (Kd.F_mono (ok := (fun k_ => (P_ k_ ∨ w.heap.size ≤ k_))) HF0.out (fun k_ hk_ => hk_)) HL0.out At10.out).mono ?_); rintro e w11 ⟨v12, rfl, hn12, hb⟩; refine ⟨_, rfl, ?_⟩); refine stop_ ?_)
    refine Stop.go ?_
    have hba := Kd.N_base hn12
    have HN12 := Aside0.mk (Kd.N_mono (Kd.N_lower hn12 (below_size HB.out)) (fun k_ hk_ => hk_.elim (fun h_ => h_) (fun h_ => .inr (Nat.le_trans (below_size HB.out) h_))) : Kd.N (Kd.int .i32) 21 w11 w.heap.size (fun k_ => (P_ k_ ∨ w.heap.size ≤ k_)) v12 t9)
    replace HF0 := Aside0.mk (Kd.F_mono (Kd.F_elder' (ok := (fun k_ => (P_ k_ ∨ w.heap.size ≤ k_))) HF0.out hba hb) (fun k_ hk_ => ⟨hk_.1, hk_.2⟩) : Kd.F (Kd.int .i32) _ (fun k_ => (P_ k_ ∨ w.heap.size ≤ k_) ∧ some k_ ≠ (v12 : Value).ownBlock) _ _ _)
    replace HB := Aside0.mk (below_step HB.out hb)
    clear hn12 hba hb
    obtain ⟨A13, cp14, he_⟩ := Kd.N_slice HN12.out
    subst he_
    have HL16 := Aside0.mk (Kd.N_reads' HN12.out).2.1
    have HF15 := Aside0.mk (Kd.N_F HN12.out)
    clear HN12
    replace HF0 := Aside0.mk (Kd.F_mono (ok := (fun k_ => (P_ k_ ∨ w.heap.size ≤ k_) ∧ some k_ ≠ ((.slice A13 t9.length cp14) : Value).ownBlock)) HF0.out (fun k_ hk_ => hk_.1) : Kd.F (Kd.int .i32) _ (fun k_ => (P_ k_ ∨ w.heap.size ≤ k_)) _ _ _)
    have H := HH.out
    replace H := Option.bind_eq_some_iff.mp H
    obtain ⟨t17, at_, H⟩ := H
    have At18 := Aside0.mk at_
    clear at_
    replace HH := Aside0.mk (show (if t17 = true then ((arrange_Order.f k t9).bind fun t21 => ((toponymref01_Same.f k t21 t9).bind fun t29 => (if t29 = true then (if (t9.length : Int) = (l0.length : Int) then ((arrange_Ordered.f k l0).bind fun t37 => ((toponymref01_Same.f k t9 l0).bind fun t40 => (if (t37 == t40) = true then ((toponymlaw06_of.f k t9 a1).bind fun t47 => ((toponymlaw06_of.f k l0 a1).bind fun t51 => ((toponymref01_Same.f k t47 t51).bind fun t63 => (if t63 = true then ((toponymlaw06_awake.f k ).bind fun t67 => (some t67)) else (some false))))) else (some false)))) else (some false)) else (some false)))) else (some false)) = some r from H)
    clear H
    go_wp2_with (((with_reducible refine gate_callee (f := 11) rfl ?_); (try (refine gate_guard (by rfl) ?_; dsimp only)); refine goesL_ (some 13) rfl rfl Try.func11 (by kernel_rfl) rfl #[.slice A13 t9.length cp14] rfl (by (try simp only [List.map_toArray, List.map_cons, List.map_nil]); first | done | rfl | (simp only [List.length_drop, List.length_take]; rfl)) ?_; (with_reducible refine (arrange_Ordered.calls k (fun k_ => (P_ k_ ∨ w.heap.size ≤ k_)) _ _ t9 t17 _ (Kd.F_mono (ok := (fun k_ => (P_ k_ ∨ w.heap.size ≤ k_))) HF15.out (fun k_ hk_ => hk_)) HL16.out At18.out).mono ?_); rintro e w' ⟨rfl, ⟨nd, rfl⟩⟩; refine ⟨_, rfl, ?_⟩); refine stop_ ?_)
    refine Stop.go ?_
    by_cases c20 : t17 = true
    · have H := HH.out
      rw [if_pos c20] at H
      replace HH := Aside0.mk H
      clear H
      subst c20
      have H := HH.out
      replace H := Option.bind_eq_some_iff.mp H
      obtain ⟨t21, at_, H⟩ := H
      have At22 := Aside0.mk at_
      clear at_
      replace HH := Aside0.mk (show ((toponymref01_Same.f k t21 t9).bind fun t29 => (if t29 = true then (if (t9.length : Int) = (l0.length : Int) then ((arrange_Ordered.f k l0).bind fun t37 => ((toponymref01_Same.f k t9 l0).bind fun t40 => (if (t37 == t40) = true then ((toponymlaw06_of.f k t9 a1).bind fun t47 => ((toponymlaw06_of.f k l0 a1).bind fun t51 => ((toponymref01_Same.f k t47 t51).bind fun t63 => (if t63 = true then ((toponymlaw06_awake.f k ).bind fun t67 => (some t67)) else (some false))))) else (some false)))) else (some false)) else (some false))) = some r from H)
      clear H
      go_wp2_with (((with_reducible refine gate_callee (f := 9) rfl ?_); (try (refine gate_guard (by rfl) ?_; dsimp only)); refine goesL_ (some 17) rfl rfl Try.func9 (by kernel_rfl) rfl #[.slice A13 t9.length cp14] rfl (by (try simp only [List.map_toArray, List.map_cons, List.map_nil]); first | done | rfl | (simp only [List.length_drop, List.length_take]; rfl)) ?_; (with_reducible refine (arrange_Order.calls k (fun k_ => (P_ k_ ∨ w.heap.size ≤ k_)) _ _ t9 t21 _ (Kd.F_mono (ok := (fun k_ => (P_ k_ ∨ w.heap.size ≤ k_))) (by (with_reducible repeat (first | apply Kd.F_alloc | apply Kd.F_drewN | apply Kd.F_drew)); exact HF15.out) (fun k_ hk_ => hk_)) HL16.out At22.out).mono ?_); rintro e w23 ⟨v24, rfl, hn24, hb⟩; refine ⟨_, rfl, ?_⟩); refine stop_ ?_)
      refine Stop.go ?_
      have hba := Kd.N_base hn24
      have HN24 := Aside0.mk (Kd.N_mono (Kd.N_lower hn24 (below_size (by repeat (first | (with_reducible first | exact HB.out | apply below_alloc | apply pw_below_drewN | apply below_drew1) | exact HB.out)))) (fun k_ hk_ => hk_.elim (fun h_ => h_) (fun h_ => .inr (Nat.le_trans (below_size (by repeat (first | (with_reducible first | exact HB.out | apply below_alloc | apply pw_below_drewN | apply below_drew1) | exact HB.out))) h_))) : Kd.N (Kd.int .i32) 21 w23 w.heap.size (fun k_ => (P_ k_ ∨ w.heap.size ≤ k_)) v24 t21)
      replace HF0 := Aside0.mk (Kd.F_mono (Kd.F_elder' (ok := (fun k_ => (P_ k_ ∨ w.heap.size ≤ k_))) (by (with_reducible repeat (first | apply Kd.F_alloc | apply Kd.F_drewN | apply Kd.F_drew)); exact HF0.out) hba hb) (fun k_ hk_ => ⟨hk_.1, hk_.2⟩) : Kd.F (Kd.int .i32) _ (fun k_ => (P_ k_ ∨ w.heap.size ≤ k_) ∧ some k_ ≠ (v24 : Value).ownBlock) _ _ _)
      replace HF15 := Aside0.mk (Kd.F_mono (Kd.F_elder' (ok := (fun k_ => (P_ k_ ∨ w.heap.size ≤ k_))) (by (with_reducible repeat (first | apply Kd.F_alloc | apply Kd.F_drewN | apply Kd.F_drew)); exact HF15.out) hba hb) (fun k_ hk_ => ⟨hk_.1, hk_.2⟩) : Kd.F (Kd.int .i32) _ (fun k_ => (P_ k_ ∨ w.heap.size ≤ k_) ∧ some k_ ≠ (v24 : Value).ownBlock) _ _ _)
      replace HB := Aside0.mk (below_step (by repeat (first | (with_reducible first | exact HB.out | apply below_alloc | apply pw_below_drewN | apply below_drew1) | exact HB.out)) hb)
      clear hn24 hba hb
      obtain ⟨A25, cp26, he_⟩ := Kd.N_slice HN24.out
      subst he_
      have HL28 := Aside0.mk (Kd.N_reads' HN24.out).2.1
      have HF27 := Aside0.mk (Kd.N_F HN24.out)
      clear HN24
      replace HF0 := Aside0.mk (Kd.F_mono (ok := (fun k_ => (P_ k_ ∨ w.heap.size ≤ k_) ∧ some k_ ≠ ((.slice A25 t21.length cp26) : Value).ownBlock)) HF0.out (fun k_ hk_ => hk_.1) : Kd.F (Kd.int .i32) _ (fun k_ => (P_ k_ ∨ w.heap.size ≤ k_)) _ _ _)
      replace HF15 := Aside0.mk (Kd.F_mono (ok := (fun k_ => (P_ k_ ∨ w.heap.size ≤ k_) ∧ some k_ ≠ ((.slice A25 t21.length cp26) : Value).ownBlock)) HF15.out (fun k_ hk_ => hk_.1) : Kd.F (Kd.int .i32) _ (fun k_ => (P_ k_ ∨ w.heap.size ≤ k_)) _ _ _)
      have H := HH.out
      replace H := Option.bind_eq_some_iff.mp H
      obtain ⟨t29, at_, H⟩ := H
      have At30 := Aside0.mk at_
      clear at_
      replace HH := Aside0.mk (show (if t29 = true then (if (t9.length : Int) = (l0.length : Int) then ((arrange_Ordered.f k l0).bind fun t37 => ((toponymref01_Same.f k t9 l0).bind fun t40 => (if (t37 == t40) = true then ((toponymlaw06_of.f k t9 a1).bind fun t47 => ((toponymlaw06_of.f k l0 a1).bind fun t51 => ((toponymref01_Same.f k t47 t51).bind fun t63 => (if t63 = true then ((toponymlaw06_awake.f k ).bind fun t67 => (some t67)) else (some false))))) else (some false)))) else (some false)) else (some false)) = some r from H)
      clear H
      go_wp2_with (((with_reducible refine gate_callee (f := 8) rfl ?_); (try (refine gate_guard (by rfl) ?_; dsimp only)); refine goesL_ (some 19) rfl rfl Try.func8 (by kernel_rfl) rfl #[.slice A25 t21.length cp26, .slice A13 t9.length cp14] rfl (by (try simp only [List.map_toArray, List.map_cons, List.map_nil]); first | done | rfl | (simp only [List.length_drop, List.length_take]; rfl)) ?_; (with_reducible refine (toponymref01_Same.calls k (fun k_ => (P_ k_ ∨ w.heap.size ≤ k_)) _ _ t21 _ _ t9 t29 _ (Kd.F_mono (ok := (fun k_ => (P_ k_ ∨ w.heap.size ≤ k_))) HF27.out (fun k_ hk_ => hk_)) HL28.out (Kd.F_mono (ok := (fun k_ => (P_ k_ ∨ w.heap.size ≤ k_))) HF15.out (fun k_ hk_ => hk_)) HL16.out At30.out).mono ?_); rintro e w' ⟨rfl, ⟨nd, rfl⟩⟩; refine ⟨_, rfl, ?_⟩); refine stop_ ?_)
      refine Stop.go ?_
      by_cases c32 : t29 = true
      · have H := HH.out
        rw [if_pos c32] at H
        replace HH := Aside0.mk H
        clear H
        subst c32
        by_cases c33 : (t9.length : Int) = (l0.length : Int)
        · have H := HH.out
          rw [if_pos c33] at H
          replace HH := Aside0.mk H
          clear H
          have hk34 : ((t9.length : Int) == (l0.length : Int)) = true := beq_iff_eq.mpr c33
          have hk35 : ((t9.length : Int) != (l0.length : Int)) = false := bne_eq_false_iff_eq.mpr c33
          have hk36 : (t9.length == l0.length) = true := by first | simpa using c33 | (simp at c33 ⊢; omega)
          clear c33
          have H := HH.out
          replace H := Option.bind_eq_some_iff.mp H
          obtain ⟨t37, at_, H⟩ := H
          have At38 := Aside0.mk at_
          clear at_
          replace HH := Aside0.mk (show ((toponymref01_Same.f k t9 l0).bind fun t40 => (if (t37 == t40) = true then ((toponymlaw06_of.f k t9 a1).bind fun t47 => ((toponymlaw06_of.f k l0 a1).bind fun t51 => ((toponymref01_Same.f k t47 t51).bind fun t63 => (if t63 = true then ((toponymlaw06_awake.f k ).bind fun t67 => (some t67)) else (some false))))) else (some false))) = some r from H)
          clear H
          go_wp2_with (((with_reducible refine gate_callee (f := 11) rfl ?_); (try (refine gate_guard (by rfl) ?_; dsimp only)); refine goesL_ (some 30) rfl rfl Try.func11 (by kernel_rfl) rfl #[.slice A0 l0.length c0] rfl (by (try simp only [List.map_toArray, List.map_cons, List.map_nil]); first | done | rfl | (simp only [List.length_drop, List.length_take]; rfl)) ?_; (with_reducible refine (arrange_Ordered.calls k (fun k_ => (P_ k_ ∨ w.heap.size ≤ k_)) _ _ l0 t37 _ (Kd.F_mono (ok := (fun k_ => (P_ k_ ∨ w.heap.size ≤ k_))) (by (with_reducible repeat (first | apply Kd.F_alloc | apply Kd.F_drewN | apply Kd.F_drew)); exact HF0.out) (fun k_ hk_ => hk_)) HL0.out At38.out).mono ?_); rintro e w' ⟨rfl, ⟨nd, rfl⟩⟩; refine ⟨_, rfl, ?_⟩); refine stop_ ?_)
          refine Stop.go ?_
          have H := HH.out
          replace H := Option.bind_eq_some_iff.mp H
          obtain ⟨t40, at_, H⟩ := H
          have At41 := Aside0.mk at_
          clear at_
          replace HH := Aside0.mk (show (if (t37 == t40) = true then ((toponymlaw06_of.f k t9 a1).bind fun t47 => ((toponymlaw06_of.f k l0 a1).bind fun t51 => ((toponymref01_Same.f k t47 t51).bind fun t63 => (if t63 = true then ((toponymlaw06_awake.f k ).bind fun t67 => (some t67)) else (some false))))) else (some false)) = some r from H)
          clear H
          go_wp2_with (((with_reducible refine gate_callee (f := 8) rfl ?_); (try (refine gate_guard (by rfl) ?_; dsimp only)); refine goesL_ (some 33) rfl rfl Try.func8 (by kernel_rfl) rfl #[.slice A13 t9.length cp14, .slice A0 l0.length c0] rfl (by (try simp only [List.map_toArray, List.map_cons, List.map_nil]); first | done | rfl | (simp only [List.length_drop, List.length_take]; rfl)) ?_; (with_reducible refine (toponymref01_Same.calls k (fun k_ => (P_ k_ ∨ w.heap.size ≤ k_)) _ _ t9 _ _ l0 t40 _ (Kd.F_mono (ok := (fun k_ => (P_ k_ ∨ w.heap.size ≤ k_))) (by (with_reducible repeat (first | apply Kd.F_alloc | apply Kd.F_drewN | apply Kd.F_drew)); exact HF15.out) (fun k_ hk_ => hk_)) HL16.out (Kd.F_mono (ok := (fun k_ => (P_ k_ ∨ w.heap.size ≤ k_))) (by (with_reducible repeat (first | apply Kd.F_alloc | apply Kd.F_drewN | apply Kd.F_drew)); exact HF0.out) (fun k_ hk_ => hk_)) HL0.out At41.out).mono ?_); rintro e w' ⟨rfl, ⟨nd, rfl⟩⟩; refine ⟨_, rfl, ?_⟩); refine stop_ ?_)
          refine Stop.go ?_
          by_cases c43 : (t37 == t40) = true
          · have H := HH.out
            rw [if_pos c43] at H
            replace HH := Aside0.mk H
            clear H
            have hk44 : (t37 == t40) = true := c43
            try have hk45 : decide (t37 = t40) = true := by simpa using c43
            try have hk46 : (t37 == t40) = true := by simpa using c43
            clear c43
            have H := HH.out
            replace H := Option.bind_eq_some_iff.mp H
            obtain ⟨t47, at_, H⟩ := H
            have At48 := Aside0.mk at_
            clear at_
            replace HH := Aside0.mk (show ((toponymlaw06_of.f k l0 a1).bind fun t51 => ((toponymref01_Same.f k t47 t51).bind fun t63 => (if t63 = true then ((toponymlaw06_awake.f k ).bind fun t67 => (some t67)) else (some false)))) = some r from H)
            clear H
            go_wp2_with (((with_reducible refine gate_callee (f := 15) rfl ?_); (try (refine gate_guard (by rfl) ?_; dsimp only)); refine goesL_ (some 38) rfl rfl Try.func15 (by kernel_rfl) rfl #[.slice A13 t9.length cp14, .int .i64 a1] rfl (by (try simp only [List.map_toArray, List.map_cons, List.map_nil]); first | done | rfl | (simp only [List.length_drop, List.length_take]; rfl)) ?_; (with_reducible refine (toponymlaw06_of.calls k (fun k_ => (P_ k_ ∨ w.heap.size ≤ k_)) _ _ t9 a1 t47 _ (Kd.F_mono (ok := (fun k_ => (P_ k_ ∨ w.heap.size ≤ k_))) (by (with_reducible repeat (first | apply Kd.F_alloc | apply Kd.F_drewN | apply Kd.F_drew)); exact HF15.out) (fun k_ hk_ => hk_)) HL16.out At48.out).mono ?_); rintro e w49 ⟨v50, rfl, hn50, hb⟩; refine ⟨_, rfl, ?_⟩); refine stop_ ?_)
            refine Stop.go ?_
            have hba := Kd.N_base hn50
            have HN50 := Aside0.mk (Kd.N_mono (Kd.N_lower hn50 (below_size (by repeat (first | (with_reducible first | exact HB.out | apply below_alloc | apply pw_below_drewN | apply below_drew1) | exact HB.out)))) (fun k_ hk_ => hk_.elim (fun h_ => h_) (fun h_ => .inr (Nat.le_trans (below_size (by repeat (first | (with_reducible first | exact HB.out | apply below_alloc | apply pw_below_drewN | apply below_drew1) | exact HB.out))) h_))) : Kd.N (Kd.int .i32) 21 w49 w.heap.size (fun k_ => (P_ k_ ∨ w.heap.size ≤ k_)) v50 t47)
            replace HF0 := Aside0.mk (Kd.F_mono (Kd.F_elder' (ok := (fun k_ => (P_ k_ ∨ w.heap.size ≤ k_))) (by (with_reducible repeat (first | apply Kd.F_alloc | apply Kd.F_drewN | apply Kd.F_drew)); exact HF0.out) hba hb) (fun k_ hk_ => ⟨hk_.1, hk_.2⟩) : Kd.F (Kd.int .i32) _ (fun k_ => (P_ k_ ∨ w.heap.size ≤ k_) ∧ some k_ ≠ (v50 : Value).ownBlock) _ _ _)
            replace HF15 := Aside0.mk (Kd.F_mono (Kd.F_elder' (ok := (fun k_ => (P_ k_ ∨ w.heap.size ≤ k_))) (by (with_reducible repeat (first | apply Kd.F_alloc | apply Kd.F_drewN | apply Kd.F_drew)); exact HF15.out) hba hb) (fun k_ hk_ => ⟨hk_.1, hk_.2⟩) : Kd.F (Kd.int .i32) _ (fun k_ => (P_ k_ ∨ w.heap.size ≤ k_) ∧ some k_ ≠ (v50 : Value).ownBlock) _ _ _)
            replace HF27 := Aside0.mk (Kd.F_mono (Kd.F_elder' (ok := (fun k_ => (P_ k_ ∨ w.heap.size ≤ k_))) (by (with_reducible repeat (first | apply Kd.F_alloc | apply Kd.F_drewN | apply Kd.F_drew)); exact HF27.out) hba hb) (fun k_ hk_ => ⟨hk_.1, hk_.2⟩) : Kd.F (Kd.int .i32) _ (fun k_ => (P_ k_ ∨ w.heap.size ≤ k_) ∧ some k_ ≠ (v50 : Value).ownBlock) _ _ _)
            replace HB := Aside0.mk (below_step (by repeat (first | (with_reducible first | exact HB.out | apply below_alloc | apply pw_below_drewN | apply below_drew1) | exact HB.out)) hb)
            clear hn50 hba hb
            have H := HH.out
            replace H := Option.bind_eq_some_iff.mp H
            obtain ⟨t51, at_, H⟩ := H
            have At52 := Aside0.mk at_
            clear at_
            replace HH := Aside0.mk (show ((toponymref01_Same.f k t47 t51).bind fun t63 => (if t63 = true then ((toponymlaw06_awake.f k ).bind fun t67 => (some t67)) else (some false))) = some r from H)
            clear H
            go_wp2_with (((with_reducible refine gate_callee (f := 15) rfl ?_); (try (refine gate_guard (by rfl) ?_; dsimp only)); refine goesL_ (some 41) rfl rfl Try.func15 (by kernel_rfl) rfl #[.slice A0 l0.length c0, .int .i64 a1] rfl (by (try simp only [List.map_toArray, List.map_cons, List.map_nil]); first | done | rfl | (simp only [List.length_drop, List.length_take]; rfl)) ?_; (with_reducible refine (toponymlaw06_of.calls k (fun k_ => (P_ k_ ∨ w.heap.size ≤ k_) ∧ some k_ ≠ (v50 : Value).ownBlock) _ _ l0 a1 t51 _ (Kd.F_mono (ok := (fun k_ => (P_ k_ ∨ w.heap.size ≤ k_) ∧ some k_ ≠ (v50 : Value).ownBlock)) HF0.out (fun k_ hk_ => ⟨hk_.1, hk_.2⟩)) HL0.out At52.out).mono ?_); rintro e w53 ⟨v54, rfl, hn54, hb⟩; refine ⟨_, rfl, ?_⟩); refine stop_ ?_)
            refine Stop.go ?_
            have hba := Kd.N_base hn54
            have HN54 := Aside0.mk (Kd.N_mono (Kd.N_lower hn54 (below_size HB.out)) (fun k_ hk_ => hk_.elim (fun h_ => h_) (fun h_ => ⟨.inr (Nat.le_trans (below_size HB.out) h_), Kd.fresh' (Kd.N_lt HN50.out) k_ h_⟩)) : Kd.N (Kd.int .i32) 21 w53 w.heap.size (fun k_ => (P_ k_ ∨ w.heap.size ≤ k_) ∧ some k_ ≠ (v50 : Value).ownBlock) v54 t51)
            replace HF0 := Aside0.mk (Kd.F_mono (Kd.F_elder' (ok := (fun k_ => (P_ k_ ∨ w.heap.size ≤ k_) ∧ some k_ ≠ (v50 : Value).ownBlock)) HF0.out hba hb) (fun k_ hk_ => ⟨hk_.1.1, hk_.1.2, hk_.2⟩) : Kd.F (Kd.int .i32) _ (fun k_ => (P_ k_ ∨ w.heap.size ≤ k_) ∧ some k_ ≠ (v50 : Value).ownBlock ∧ some k_ ≠ (v54 : Value).ownBlock) _ _ _)
            replace HF15 := Aside0.mk (Kd.F_mono (Kd.F_elder' (ok := (fun k_ => (P_ k_ ∨ w.heap.size ≤ k_) ∧ some k_ ≠ (v50 : Value).ownBlock)) HF15.out hba hb) (fun k_ hk_ => ⟨hk_.1.1, hk_.1.2, hk_.2⟩) : Kd.F (Kd.int .i32) _ (fun k_ => (P_ k_ ∨ w.heap.size ≤ k_) ∧ some k_ ≠ (v50 : Value).ownBlock ∧ some k_ ≠ (v54 : Value).ownBlock) _ _ _)
            replace HF27 := Aside0.mk (Kd.F_mono (Kd.F_elder' (ok := (fun k_ => (P_ k_ ∨ w.heap.size ≤ k_) ∧ some k_ ≠ (v50 : Value).ownBlock)) HF27.out hba hb) (fun k_ hk_ => ⟨hk_.1.1, hk_.1.2, hk_.2⟩) : Kd.F (Kd.int .i32) _ (fun k_ => (P_ k_ ∨ w.heap.size ≤ k_) ∧ some k_ ≠ (v50 : Value).ownBlock ∧ some k_ ≠ (v54 : Value).ownBlock) _ _ _)
            replace HN50 := Aside0.mk (Kd.N_mono (Kd.N_elder' (ok := (fun k_ => (P_ k_ ∨ w.heap.size ≤ k_))) HN50.out hba hb) (fun k_ hk_ => ⟨hk_.1, hk_.2⟩) : Kd.N (Kd.int .i32) _ _ _ (fun k_ => (P_ k_ ∨ w.heap.size ≤ k_) ∧ some k_ ≠ (v54 : Value).ownBlock) _ _)
            replace HB := Aside0.mk (below_step HB.out hb)
            clear hn54 hba hb
            obtain ⟨A55, cp56, he_⟩ := Kd.N_slice HN50.out
            subst he_
            have HL58 := Aside0.mk (Kd.N_reads' HN50.out).2.1
            have HF57 := Aside0.mk (Kd.N_F HN50.out)
            clear HN50
            replace HF0 := Aside0.mk (Kd.F_mono (ok := (fun k_ => (P_ k_ ∨ w.heap.size ≤ k_) ∧ some k_ ≠ ((.slice A55 t47.length cp56) : Value).ownBlock ∧ some k_ ≠ (v54 : Value).ownBlock)) HF0.out (fun k_ hk_ => ⟨hk_.1, hk_.2.2⟩) : Kd.F (Kd.int .i32) _ (fun k_ => (P_ k_ ∨ w.heap.size ≤ k_) ∧ some k_ ≠ (v54 : Value).ownBlock) _ _ _)
            replace HF15 := Aside0.mk (Kd.F_mono (ok := (fun k_ => (P_ k_ ∨ w.heap.size ≤ k_) ∧ some k_ ≠ ((.slice A55 t47.length cp56) : Value).ownBlock ∧ some k_ ≠ (v54 : Value).ownBlock)) HF15.out (fun k_ hk_ => ⟨hk_.1, hk_.2.2⟩) : Kd.F (Kd.int .i32) _ (fun k_ => (P_ k_ ∨ w.heap.size ≤ k_) ∧ some k_ ≠ (v54 : Value).ownBlock) _ _ _)
            replace HF27 := Aside0.mk (Kd.F_mono (ok := (fun k_ => (P_ k_ ∨ w.heap.size ≤ k_) ∧ some k_ ≠ ((.slice A55 t47.length cp56) : Value).ownBlock ∧ some k_ ≠ (v54 : Value).ownBlock)) HF27.out (fun k_ hk_ => ⟨hk_.1, hk_.2.2⟩) : Kd.F (Kd.int .i32) _ (fun k_ => (P_ k_ ∨ w.heap.size ≤ k_) ∧ some k_ ≠ (v54 : Value).ownBlock) _ _ _)
            replace HN54 := Aside0.mk (Kd.N_mono (ok := (fun k_ => (P_ k_ ∨ w.heap.size ≤ k_) ∧ some k_ ≠ ((.slice A55 t47.length cp56) : Value).ownBlock)) HN54.out (fun k_ hk_ => hk_.1) : Kd.N (Kd.int .i32) _ _ _ (fun k_ => (P_ k_ ∨ w.heap.size ≤ k_)) _ _)
            obtain ⟨A59, cp60, he_⟩ := Kd.N_slice HN54.out
            subst he_
            have HL62 := Aside0.mk (Kd.N_reads' HN54.out).2.1
            have HF61 := Aside0.mk (Kd.N_F HN54.out)
            clear HN54
            replace HF0 := Aside0.mk (Kd.F_mono (ok := (fun k_ => (P_ k_ ∨ w.heap.size ≤ k_) ∧ some k_ ≠ ((.slice A59 t51.length cp60) : Value).ownBlock)) HF0.out (fun k_ hk_ => hk_.1) : Kd.F (Kd.int .i32) _ (fun k_ => (P_ k_ ∨ w.heap.size ≤ k_)) _ _ _)
            replace HF15 := Aside0.mk (Kd.F_mono (ok := (fun k_ => (P_ k_ ∨ w.heap.size ≤ k_) ∧ some k_ ≠ ((.slice A59 t51.length cp60) : Value).ownBlock)) HF15.out (fun k_ hk_ => hk_.1) : Kd.F (Kd.int .i32) _ (fun k_ => (P_ k_ ∨ w.heap.size ≤ k_)) _ _ _)
            replace HF27 := Aside0.mk (Kd.F_mono (ok := (fun k_ => (P_ k_ ∨ w.heap.size ≤ k_) ∧ some k_ ≠ ((.slice A59 t51.length cp60) : Value).ownBlock)) HF27.out (fun k_ hk_ => hk_.1) : Kd.F (Kd.int .i32) _ (fun k_ => (P_ k_ ∨ w.heap.size ≤ k_)) _ _ _)
            replace HF57 := Aside0.mk (Kd.F_mono (ok := (fun k_ => (P_ k_ ∨ w.heap.size ≤ k_) ∧ some k_ ≠ ((.slice A59 t51.length cp60) : Value).ownBlock)) HF57.out (fun k_ hk_ => hk_.1) : Kd.F (Kd.int .i32) _ (fun k_ => (P_ k_ ∨ w.heap.size ≤ k_)) _ _ _)
            have H := HH.out
            replace H := Option.bind_eq_some_iff.mp H
            obtain ⟨t63, at_, H⟩ := H
            have At64 := Aside0.mk at_
            clear at_
            replace HH := Aside0.mk (show (if t63 = true then ((toponymlaw06_awake.f k ).bind fun t67 => (some t67)) else (some false)) = some r from H)
            clear H
            go_wp2_with (((with_reducible refine gate_callee (f := 8) rfl ?_); (try (refine gate_guard (by rfl) ?_; dsimp only)); refine goesL_ (some 42) rfl rfl Try.func8 (by kernel_rfl) rfl #[.slice A55 t47.length cp56, .slice A59 t51.length cp60] rfl (by (try simp only [List.map_toArray, List.map_cons, List.map_nil]); first | done | rfl | (simp only [List.length_drop, List.length_take]; rfl)) ?_; (with_reducible refine (toponymref01_Same.calls k (fun k_ => (P_ k_ ∨ w.heap.size ≤ k_)) _ _ t47 _ _ t51 t63 _ (Kd.F_mono (ok := (fun k_ => (P_ k_ ∨ w.heap.size ≤ k_))) HF57.out (fun k_ hk_ => hk_)) HL58.out (Kd.F_mono (ok := (fun k_ => (P_ k_ ∨ w.heap.size ≤ k_))) HF61.out (fun k_ hk_ => hk_)) HL62.out At64.out).mono ?_); rintro e w' ⟨rfl, ⟨nd, rfl⟩⟩; refine ⟨_, rfl, ?_⟩); refine stop_ ?_)
            refine Stop.go ?_
            by_cases c66 : t63 = true
            · have H := HH.out
              rw [if_pos c66] at H
              replace HH := Aside0.mk H
              clear H
              subst c66
              have H := HH.out
              replace H := Option.bind_eq_some_iff.mp H
              obtain ⟨t67, at_, H⟩ := H
              have At68 := Aside0.mk at_
              clear at_
              replace HH := Aside0.mk (show (some t67) = some r from H)
              clear H
              go_wp2_with (((with_reducible refine gate_callee (f := 7) rfl ?_); (try (refine gate_guard (by rfl) ?_; dsimp only)); refine goesL_ (some 45) rfl rfl Try.func7 (by kernel_rfl) rfl #[] rfl (by (try simp only [List.map_toArray, List.map_cons, List.map_nil]); first | done | rfl | (simp only [List.length_drop, List.length_take]; rfl)) ?_; (with_reducible refine (toponymlaw06_awake.calls k  t67 _  At68.out).mono ?_); rintro e w69 ⟨rfl, hb⟩; refine ⟨_, rfl, ?_⟩); refine stop_ ?_)
              refine Stop.go ?_
              replace HF0 := Aside0.mk (Kd.F_below (by (with_reducible repeat (first | apply Kd.F_alloc | apply Kd.F_drewN | apply Kd.F_drew)); exact HF0.out) hb)
              replace HF15 := Aside0.mk (Kd.F_below (by (with_reducible repeat (first | apply Kd.F_alloc | apply Kd.F_drewN | apply Kd.F_drew)); exact HF15.out) hb)
              replace HF27 := Aside0.mk (Kd.F_below (by (with_reducible repeat (first | apply Kd.F_alloc | apply Kd.F_drewN | apply Kd.F_drew)); exact HF27.out) hb)
              replace HF57 := Aside0.mk (Kd.F_below (by (with_reducible repeat (first | apply Kd.F_alloc | apply Kd.F_drewN | apply Kd.F_drew)); exact HF57.out) hb)
              replace HF61 := Aside0.mk (Kd.F_below (by (with_reducible repeat (first | apply Kd.F_alloc | apply Kd.F_drewN | apply Kd.F_drew)); exact HF61.out) hb)
              replace HB := Aside0.mk (below_step (by repeat (first | (with_reducible first | exact HB.out | apply below_alloc | apply pw_below_drewN | apply below_drew1) | exact HB.out)) hb)
              clear hb
              have H := HH.out
              obtain rfl := Option.some.inj H
              clear HH
              go_wp2
              go_ret
              exact ⟨by first | rfl | (simp; done) | (simp [*]; done), HB.out⟩
            · have H := HH.out
              rw [if_neg c66] at H
              replace HH := Aside0.mk H
              clear H
              replace c66 := Bool.eq_false_iff.mpr c66
              subst c66
              have H := HH.out
              obtain rfl := Option.some.inj H
              clear HH
              go_wp2
              go_ret
              exact ⟨by first | rfl | (simp; done) | (simp [*]; done), (by repeat (first | (with_reducible first | exact HB.out | apply below_alloc | apply pw_below_drewN | apply below_drew1) | exact HB.out))⟩
          · have H := HH.out
            rw [if_neg c43] at H
            replace HH := Aside0.mk H
            clear H
            have hk70 : (t37 == t40) = false := by simpa using c43
            try have hk71 : decide (t37 = t40) = false := by simpa using c43
            try have hk72 : (t37 == t40) = false := by simpa using c43
            try have hk73 : ¬ (t37 = t40) := by simpa using c43
            clear c43
            have H := HH.out
            obtain rfl := Option.some.inj H
            clear HH
            go_wp2
            go_ret
            exact ⟨by first | rfl | (simp; done) | (simp [*]; done), (by repeat (first | (with_reducible first | exact HB.out | apply below_alloc | apply pw_below_drewN | apply below_drew1) | exact HB.out))⟩
        · have H := HH.out
          rw [if_neg c33] at H
          replace HH := Aside0.mk H
          clear H
          have hk74 : ((t9.length : Int) == (l0.length : Int)) = false := beq_eq_false_iff_ne.mpr c33
          have hk75 : ((t9.length : Int) != (l0.length : Int)) = true := bne_iff_ne.mpr c33
          have hk76 : (t9.length == l0.length) = false := by first | simpa using c33 | (simp at c33 ⊢; omega)
          clear c33
          have H := HH.out
          obtain rfl := Option.some.inj H
          clear HH
          go_wp2
          go_ret
          exact ⟨by first | rfl | (simp; done) | (simp [*]; done), (by repeat (first | (with_reducible first | exact HB.out | apply below_alloc | apply pw_below_drewN | apply below_drew1) | exact HB.out))⟩
      · have H := HH.out
        rw [if_neg c32] at H
        replace HH := Aside0.mk H
        clear H
        replace c32 := Bool.eq_false_iff.mpr c32
        subst c32
        have H := HH.out
        obtain rfl := Option.some.inj H
        clear HH
        go_wp2
        go_ret
        exact ⟨by first | rfl | (simp; done) | (simp [*]; done), (by repeat (first | (with_reducible first | exact HB.out | apply below_alloc | apply pw_below_drewN | apply below_drew1) | exact HB.out))⟩
    · have H := HH.out
      rw [if_neg c20] at H
      replace HH := Aside0.mk H
      clear H
      replace c20 := Bool.eq_false_iff.mpr c20
      subst c20
      have H := HH.out
      obtain rfl := Option.some.inj H
      clear HH
      go_wp2
      go_ret
      exact ⟨by first | rfl | (simp; done) | (simp [*]; done), (by repeat (first | (with_reducible first | exact HB.out | apply below_alloc | apply pw_below_drewN | apply below_drew1) | exact HB.out))⟩

end Go.Proofs.Ythdcofcikmeeeaa.GA
