-- written by wip/gen.py, a program of this session
import Derived.Test.YthdcofcikmeeeaaGA0
import Derived.Test.YthdcofcikmeeeaaGAF10
import Derived.Test.YthdcofcikmeeeaaGAF11
import Derived.Test.YthdcofcikmeeeaaGAF12
import Derived.Test.YthdcofcikmeeeaaGAF7
import Derived.Test.YthdcofcikmeeeaaGAF8
import Derived.Test.YthdcofcikmeeeaaGAF9
namespace Go.Proofs.Ythdcofcikmeeeaa.GA
open Go.RowKit Go.Proofs.Ythdcofcikmeeeaa Go.Proofs.Ythdcofcikmeeeaa.MW Go.Proofs.YthdcofcikmeeeaaW.PrintWords Go.Proofs.YthdcofcikmeeeaaW.PrintLast Go.Proofs.YthdcofcikmeeeaaW.PrintMore
attribute [local go_sem] max2_int min2_int max_two min_two
set_option linter.unusedVariables false
set_option linter.unusedSimpArgs false

/-! ### toponymlaw06_ArrangeOrders: function 3 -/
def toponymlaw06_ArrangeOrders.f (k : Nat) (l0 : List Int) : Option (Bool) := if (l0.length : Int) > 400 then ((toponymlaw06_awake.f k ).bind fun t4 => (some t4)) else ((arrange_Order.f k l0).bind fun t9 => ((toponymref06_Order.f k l0).bind fun t13 => ((toponymref01_Same.f k t9 t13).bind fun t25 => (if t25 = true then ((arrange_Ordered.f k l0).bind fun t29 => ((toponymref06_Ordered.f k l0).bind fun t32 => (if (t29 == t32) = true then ((toponymlaw06_awake.f k ).bind fun t39 => (some t39)) else (some false)))) else (some false)))))
theorem toponymlaw06_ArrangeOrders.mono : ∀ a0_ k, LeO (toponymlaw06_ArrangeOrders.f k a0_) (toponymlaw06_ArrangeOrders.f (k + 1) a0_) := by
  intro a0_ k
  unfold toponymlaw06_ArrangeOrders.f
  repeat' first
      | (with_reducible exact arrange_Order.mono _ _)
      | (with_reducible exact arrange_Ordered.mono _ _)
      | (with_reducible exact toponymlaw06_awake.mono _)
      | (with_reducible exact toponymref01_Same.mono _ _ _)
      | (with_reducible exact toponymref06_Order.mono _ _)
      | (with_reducible exact toponymref06_Ordered.mono _ _)
      | (with_reducible exact LeO.refl _)
      | (with_reducible exact LeO.none _)
      | (with_reducible refine LeO.ite ?_ ?_)
      | (with_reducible refine LeO.bind ?_ (fun _ => ?_))
      | exact arrange_Order.mono _ _
      | exact arrange_Ordered.mono _ _
      | exact toponymlaw06_awake.mono _
      | exact toponymref01_Same.mono _ _ _
      | exact toponymref06_Order.mono _ _
      | exact toponymref06_Ordered.mono _ _
      | exact LeO.none _
      | refine LeO.ite ?_ ?_
      | refine LeO.bind ?_ (fun _ => ?_)
set_option maxHeartbeats 8000000 in
set_option maxRecDepth 100000 in
theorem toponymlaw06_ArrangeOrders.calls (k : Nat) (P_ : Nat → Prop) (A0 : Option Addr) (c0 : Nat) (l0 : List Int) (r : Bool) (w : World) (hs0 : Kd.F (Kd.int .i32) w P_ A0 l0.length l0) (hc0 : l0.length ≤ c0) (h : toponymlaw06_ArrangeOrders.f k l0 = some r) :
    Calls Try.prog 3 #[.slice A0 l0.length c0] w (fun e w' => e = .returned (.bool r) ∧ Below w.heap.size w w') := by
  have HH := Aside0.mk (show (if (l0.length : Int) > 400 then ((toponymlaw06_awake.f k ).bind fun t4 => (some t4)) else ((arrange_Order.f k l0).bind fun t9 => ((toponymref06_Order.f k l0).bind fun t13 => ((toponymref01_Same.f k t9 t13).bind fun t25 => (if t25 = true then ((arrange_Ordered.f k l0).bind fun t29 => ((toponymref06_Ordered.f k l0).bind fun t32 => (if (t29 == t32) = true then ((toponymlaw06_awake.f k ).bind fun t39 => (some t39)) else (some false)))) else (some false)))))) = some r from h)
  clear h
  have HF0 := Aside0.mk (Kd.F_mono hs0 (fun k_ hk_ => (.inl hk_ : P_ k_ ∨ w.heap.size ≤ k_)))
  have HL0 := Aside0.mk hc0
  clear hs0 hc0
  have HB := Aside0.mk (Below.refl w.heap.size w)
  go_enter Try.func3, Try.ntmps3
  by_cases c1 : (l0.length : Int) > 400
  · have H := HH.out
    rw [if_pos c1] at H
    replace HH := Aside0.mk H
    clear H
    have hk2 : decide (400 < (l0.length : Int)) = true := decide_eq_true c1
    have hk3 : decide (400 < l0.length) = true := decide_eq_true (by omega)
    clear c1
    have H := HH.out
    replace H := Option.bind_eq_some_iff.mp H
    obtain ⟨t4, at_, H⟩ := H
    have At5 := Aside0.mk at_
    clear at_
    replace HH := Aside0.mk (show (some t4) = some r from H)
    clear H
    go_wp2_with (((with_reducible refine gate_callee (f := 7) rfl ?_); (try (refine gate_guard (by rfl) ?_; dsimp only)); refine goesL_ (some 6) rfl rfl Try.func7 (by kernel_rfl) rfl #[] rfl (by (try simp only [List.map_toArray, List.map_cons, List.map_nil]); first | done | rfl | (simp only [List.length_drop, List.length_take]; rfl)) ?_; (with_reducible refine (toponymlaw06_awake.calls k  t4 _  At5.out).mono ?_); rintro e w6 ⟨rfl, hb⟩; refine ⟨_, rfl, ?_⟩); refine stop_ ?_)
    refine Stop.go ?_
    replace HF0 := Aside0.mk (Kd.F_below HF0.out hb)
    replace HB := Aside0.mk (below_step HB.out hb)
    clear hb
    have H := HH.out
    obtain rfl := Option.some.inj H
    clear HH
    go_wp2
    go_ret
    exact ⟨by first | rfl | (simp; done) | (simp [*]; done), HB.out⟩
  · have H := HH.out
    rw [if_neg c1] at H
    replace HH := Aside0.mk H
    clear H
    have hk7 : decide (400 < (l0.length : Int)) = false := decide_eq_false c1
    have hk8 : decide (400 < l0.length) = false := decide_eq_false (by omega)
    clear c1
    have H := HH.out
    replace H := Option.bind_eq_some_iff.mp H
    obtain ⟨t9, at_, H⟩ := H
    have At10 := Aside0.mk at_
    clear at_
    replace HH := Aside0.mk (show ((toponymref06_Order.f k l0).bind fun t13 => ((toponymref01_Same.f k t9 t13).bind fun t25 => (if t25 = true then ((arrange_Ordered.f k l0).bind fun t29 => ((toponymref06_Ordered.f k l0).bind fun t32 => (if (t29 == t32) = true then ((toponymlaw06_awake.f k ).bind fun t39 => (some t39)) else (some false)))) else (some false)))) = some r from H)
    clear H
    go_wp2_with (((with_reducible refine gate_callee (f := 9) rfl ?_); (try (refine gate_guard (by rfl) ?_; dsimp only)); refine goesL_ (some 8) rfl rfl Try.func9 (by kernel_rfl) rfl #[.slice A0 l0.length c0] rfl (by (try simp only [List.map_toArray, List.map_cons, List.map_nil]); first | done | rfl | (simp only [List.length_drop, List.length_take]; rfl)) ?_; (with_reducible refine (arrange_Order.calls k (fun k_ => (P_ k_ ∨ w.heap.size ≤ k_)) _ _ l0 t9 _ (Kd.F_mono (ok := (fun k_ => (P_ k_ ∨ w.heap.size ≤ k_))) HF0.out (fun k_ hk_ => hk_)) HL0.out At10.out).mono ?_); rintro e w11 ⟨v12, rfl, hn12, hb⟩; refine ⟨_, rfl, ?_⟩); refine stop_ ?_)
    refine Stop.go ?_
    have hba := Kd.N_base hn12
    have HN12 := Aside0.mk (Kd.N_mono (Kd.N_lower hn12 (below_size HB.out)) (fun k_ hk_ => hk_.elim (fun h_ => h_) (fun h_ => .inr (Nat.le_trans (below_size HB.out) h_))) : Kd.N (Kd.int .i32) 21 w11 w.heap.size (fun k_ => (P_ k_ ∨ w.heap.size ≤ k_)) v12 t9)
    replace HF0 := Aside0.mk (Kd.F_mono (Kd.F_elder' (ok := (fun k_ => (P_ k_ ∨ w.heap.size ≤ k_))) HF0.out hba hb) (fun k_ hk_ => ⟨hk_.1, hk_.2⟩) : Kd.F (Kd.int .i32) _ (fun k_ => (P_ k_ ∨ w.heap.size ≤ k_) ∧ some k_ ≠ (v12 : Value).ownBlock) _ _ _)
    replace HB := Aside0.mk (below_step HB.out hb)
    clear hn12 hba hb
    have H := HH.out
    replace H := Option.bind_eq_some_iff.mp H
    obtain ⟨t13, at_, H⟩ := H
    have At14 := Aside0.mk at_
    clear at_
    replace HH := Aside0.mk (show ((toponymref01_Same.f k t9 t13).bind fun t25 => (if t25 = true then ((arrange_Ordered.f k l0).bind fun t29 => ((toponymref06_Ordered.f k l0).bind fun t32 => (if (t29 == t32) = true then ((toponymlaw06_awake.f k ).bind fun t39 => (some t39)) else (some false)))) else (some false))) = some r from H)
    clear H
    go_wp2_with (((with_reducible refine gate_callee (f := 10) rfl ?_); (try (refine gate_guard (by rfl) ?_; dsimp only)); refine goesL_ (some 10) rfl rfl Try.func10 (by kernel_rfl) rfl #[.slice A0 l0.length c0] rfl (by (try simp only [List.map_toArray, List.map_cons, List.map_nil]); first | done | rfl | (simp only [List.length_drop, List.length_take]; rfl)) ?_; (with_reducible refine (toponymref06_Order.calls k (fun k_ => (P_ k_ ∨ w.heap.size ≤ k_) ∧ some k_ ≠ (v12 : Value).ownBlock) _ _ l0 t13 _ (Kd.F_mono (ok := (fun k_ => (P_ k_ ∨ w.heap.size ≤ k_) ∧ some k_ ≠ (v12 : Value).ownBlock)) HF0.out (fun k_ hk_ => ⟨hk_.1, hk_.2⟩)) HL0.out At14.out).mono ?_); rintro e w15 ⟨v16, rfl, hn16, hb⟩; refine ⟨_, rfl, ?_⟩); refine stop_ ?_)
    refine Stop.go ?_
    have hba := Kd.N_base hn16
    have HN16 := Aside0.mk (Kd.N_mono (Kd.N_lower hn16 (below_size HB.out)) (fun k_ hk_ => hk_.elim (fun h_ => h_) (fun h_ => ⟨.inr (Nat.le_trans (below_size HB.out) h_), Kd.fresh' (Kd.N_lt HN12.out) k_ h_⟩)) : Kd.N (Kd.int .i32) 21 w15 w.heap.size (fun k_ => (P_ k_ ∨ w.heap.size ≤ k_) ∧ some k_ ≠ (v12 : Value).ownBlock) v16 t13)
    replace HF0 := Aside0.mk (Kd.F_mono (Kd.F_elder' (ok := (fun k_ => (P_ k_ ∨ w.heap.size ≤ k_) ∧ some k_ ≠ (v12 : Value).ownBlock)) HF0.out hba hb) (fun k_ hk_ => ⟨hk_.1.1, hk_.1.2, hk_.2⟩) : Kd.F (Kd.int .i32) _ (fun k_ => (P_ k_ ∨ w.heap.size ≤ k_) ∧ some k_ ≠ (v12 : Value).ownBlock ∧ some k_ ≠ (v16 : Value).ownBlock) _ _ _)
    replace HN12 := Aside0.mk (Kd.N_mono (Kd.N_elder' (ok := (fun k_ => (P_ k_ ∨ w.heap.size ≤ k_))) HN12.out hba hb) (fun k_ hk_ => ⟨hk_.1, hk_.2⟩) : Kd.N (Kd.int .i32) _ _ _ (fun k_ => (P_ k_ ∨ w.heap.size ≤ k_) ∧ some k_ ≠ (v16 : Value).ownBlock) _ _)
    replace HB := Aside0.mk (below_step HB.out hb)
    clear hn16 hba hb
    obtain ⟨A17, cp18, he_⟩ := Kd.N_slice HN12.out
    subst he_
    have HL20 := Aside0.mk (Kd.N_reads' HN12.out).2.1
    have HF19 := Aside0.mk (Kd.N_F HN12.out)
    clear HN12
    replace HF0 := Aside0.mk (Kd.F_mono (ok := (fun k_ => (P_ k_ ∨ w.heap.size ≤ k_) ∧ some k_ ≠ ((.slice A17 t9.length cp18) : Value).ownBlock ∧ some k_ ≠ (v16 : Value).ownBlock)) HF0.out (fun k_ hk_ => ⟨hk_.1, hk_.2.2⟩) : Kd.F (Kd.int .i32) _ (fun k_ => (P_ k_ ∨ w.heap.size ≤ k_) ∧ some k_ ≠ (v16 : Value).ownBlock) _ _ _)
    replace HN16 := Aside0.mk (Kd.N_mono (ok := (fun k_ => (P_ k_ ∨ w.heap.size ≤ k_) ∧ some k_ ≠ ((.slice A17 t9.length cp18) : Value).ownBlock)) HN16.out (fun k_ hk_ => hk_.1) : Kd.N (Kd.int .i32) _ _ _ (fun k_ => (P_ k_ ∨ w.heap.size ≤ k_)) _ _)
    obtain ⟨A21, cp22, he_⟩ := Kd.N_slice HN16.out
    subst he_
    have HL24 := Aside0.mk (Kd.N_reads' HN16.out).2.1
    have HF23 := Aside0.mk (Kd.N_F HN16.out)
    clear HN16
    replace HF0 := Aside0.mk (Kd.F_mono (ok := (fun k_ => (P_ k_ ∨ w.heap.size ≤ k_) ∧ some k_ ≠ ((.slice A21 t13.length cp22) : Value).ownBlock)) HF0.out (fun k_ hk_ => hk_.1) : Kd.F (Kd.int .i32) _ (fun k_ => (P_ k_ ∨ w.heap.size ≤ k_)) _ _ _)
    replace HF19 := Aside0.mk (Kd.F_mono (ok := (fun k_ => (P_ k_ ∨ w.heap.size ≤ k_) ∧ some k_ ≠ ((.slice A21 t13.length cp22) : Value).ownBlock)) HF19.out (fun k_ hk_ => hk_.1) : Kd.F (Kd.int .i32) _ (fun k_ => (P_ k_ ∨ w.heap.size ≤ k_)) _ _ _)
    have H := HH.out
    replace H := Option.bind_eq_some_iff.mp H
    obtain ⟨t25, at_, H⟩ := H
    have At26 := Aside0.mk at_
    clear at_
    replace HH := Aside0.mk (show (if t25 = true then ((arrange_Ordered.f k l0).bind fun t29 => ((toponymref06_Ordered.f k l0).bind fun t32 => (if (t29 == t32) = true then ((toponymlaw06_awake.f k ).bind fun t39 => (some t39)) else (some false)))) else (some false)) = some r from H)
    clear H
    go_wp2_with (((with_reducible refine gate_callee (f := 8) rfl ?_); (try (refine gate_guard (by rfl) ?_; dsimp only)); refine goesL_ (some 11) rfl rfl Try.func8 (by kernel_rfl) rfl #[.slice A17 t9.length cp18, .slice A21 t13.length cp22] rfl (by (try simp only [List.map_toArray, List.map_cons, List.map_nil]); first | done | rfl | (simp only [List.length_drop, List.length_take]; rfl)) ?_; (with_reducible refine (toponymref01_Same.calls k (fun k_ => (P_ k_ ∨ w.heap.size ≤ k_)) _ _ t9 _ _ t13 t25 _ (Kd.F_mono (ok := (fun k_ => (P_ k_ ∨ w.heap.size ≤ k_))) HF19.out (fun k_ hk_ => hk_)) HL20.out (Kd.F_mono (ok := (fun k_ => (P_ k_ ∨ w.heap.size ≤ k_))) HF23.out (fun k_ hk_ => hk_)) HL24.out At26.out).mono ?_); rintro e w' ⟨rfl, ⟨nd, rfl⟩⟩; refine ⟨_, rfl, ?_⟩); refine stop_ ?_)
    refine Stop.go ?_
    by_cases c28 : t25 = true
    · have H := HH.out
      rw [if_pos c28] at H
      replace HH := Aside0.mk H
      clear H
      subst c28
      have H := HH.out
      replace H := Option.bind_eq_some_iff.mp H
      obtain ⟨t29, at_, H⟩ := H
      have At30 := Aside0.mk at_
      clear at_
      replace HH := Aside0.mk (show ((toponymref06_Ordered.f k l0).bind fun t32 => (if (t29 == t32) = true then ((toponymlaw06_awake.f k ).bind fun t39 => (some t39)) else (some false))) = some r from H)
      clear H
      go_wp2_with (((with_reducible refine gate_callee (f := 11) rfl ?_); (try (refine gate_guard (by rfl) ?_; dsimp only)); refine goesL_ (some 14) rfl rfl Try.func11 (by kernel_rfl) rfl #[.slice A0 l0.length c0] rfl (by (try simp only [List.map_toArray, List.map_cons, List.map_nil]); first | done | rfl | (simp only [List.length_drop, List.length_take]; rfl)) ?_; (with_reducible refine (arrange_Ordered.calls k (fun k_ => (P_ k_ ∨ w.heap.size ≤ k_)) _ _ l0 t29 _ (Kd.F_mono (ok := (fun k_ => (P_ k_ ∨ w.heap.size ≤ k_))) (by (with_reducible repeat (first | apply Kd.F_alloc | apply Kd.F_drewN | apply Kd.F_drew)); exact HF0.out) (fun k_ hk_ => hk_)) HL0.out At30.out).mono ?_); rintro e w' ⟨rfl, ⟨nd, rfl⟩⟩; refine ⟨_, rfl, ?_⟩); refine stop_ ?_)
      refine Stop.go ?_
      have H := HH.out
      replace H := Option.bind_eq_some_iff.mp H
      obtain ⟨t32, at_, H⟩ := H
      have At33 := Aside0.mk at_
      clear at_
      replace HH := Aside0.mk (show (if (t29 == t32) = true then ((toponymlaw06_awake.f k ).bind fun t39 => (some t39)) else (some false)) = some r from H)
      clear H
      go_wp2_with (((with_reducible refine gate_callee (f := 12) rfl ?_); (try (refine gate_guard (by rfl) ?_; dsimp only)); refine goesL_ (some 16) rfl rfl Try.func12 (by kernel_rfl) rfl #[.slice A0 l0.length c0] rfl (by (try simp only [List.map_toArray, List.map_cons, List.map_nil]); first | done | rfl | (simp only [List.length_drop, List.length_take]; rfl)) ?_; (with_reducible refine (toponymref06_Ordered.calls k (fun k_ => (P_ k_ ∨ w.heap.size ≤ k_)) _ _ l0 t32 _ (Kd.F_mono (ok := (fun k_ => (P_ k_ ∨ w.heap.size ≤ k_))) (by (with_reducible repeat (first | apply Kd.F_alloc | apply Kd.F_drewN | apply Kd.F_drew)); exact HF0.out) (fun k_ hk_ => hk_)) HL0.out At33.out).mono ?_); rintro e w34 ⟨rfl, hb⟩; refine ⟨_, rfl, ?_⟩); refine stop_ ?_)
      refine Stop.go ?_
      replace HF0 := Aside0.mk (Kd.F_below (by (with_reducible repeat (first | apply Kd.F_alloc | apply Kd.F_drewN | apply Kd.F_drew)); exact HF0.out) hb)
      replace HF19 := Aside0.mk (Kd.F_below (by (with_reducible repeat (first | apply Kd.F_alloc | apply Kd.F_drewN | apply Kd.F_drew)); exact HF19.out) hb)
      replace HF23 := Aside0.mk (Kd.F_below (by (with_reducible repeat (first | apply Kd.F_alloc | apply Kd.F_drewN | apply Kd.F_drew)); exact HF23.out) hb)
      replace HB := Aside0.mk (below_step (by repeat (first | (with_reducible first | exact HB.out | apply below_alloc | apply pw_below_drewN | apply below_drew1) | exact HB.out)) hb)
      clear hb
      by_cases c35 : (t29 == t32) = true
      · have H := HH.out
        rw [if_pos c35] at H
        replace HH := Aside0.mk H
        clear H
        have hk36 : (t29 == t32) = true := c35
        try have hk37 : decide (t29 = t32) = true := by simpa using c35
        try have hk38 : (t29 == t32) = true := by simpa using c35
        clear c35
        have H := HH.out
        replace H := Option.bind_eq_some_iff.mp H
        obtain ⟨t39, at_, H⟩ := H
        have At40 := Aside0.mk at_
        clear at_
        replace HH := Aside0.mk (show (some t39) = some r from H)
        clear H
        go_wp2_with (((with_reducible refine gate_callee (f := 7) rfl ?_); (try (refine gate_guard (by rfl) ?_; dsimp only)); refine goesL_ (some 20) rfl rfl Try.func7 (by kernel_rfl) rfl #[] rfl (by (try simp only [List.map_toArray, List.map_cons, List.map_nil]); first | done | rfl | (simp only [List.length_drop, List.length_take]; rfl)) ?_; (with_reducible refine (toponymlaw06_awake.calls k  t39 _  At40.out).mono ?_); rintro e w41 ⟨rfl, hb⟩; refine ⟨_, rfl, ?_⟩); refine stop_ ?_)
        refine Stop.go ?_
        replace HF0 := Aside0.mk (Kd.F_below HF0.out hb)
        replace HF19 := Aside0.mk (Kd.F_below HF19.out hb)
        replace HF23 := Aside0.mk (Kd.F_below HF23.out hb)
        replace HB := Aside0.mk (below_step HB.out hb)
        clear hb
        have H := HH.out
        obtain rfl := Option.some.inj H
        clear HH
        go_wp2
        go_ret
        exact ⟨by first | rfl | (simp; done) | (simp [*]; done), HB.out⟩
      · have H := HH.out
        rw [if_neg c35] at H
        replace HH := Aside0.mk H
        clear H
        have hk42 : (t29 == t32) = false := by simpa using c35
        try have hk43 : decide (t29 = t32) = false := by simpa using c35
        try have hk44 : (t29 == t32) = false := by simpa using c35
        try have hk45 : ¬ (t29 = t32) := by simpa using c35
        clear c35
        have H := HH.out
        obtain rfl := Option.some.inj H
        clear HH
        go_wp2
        go_ret
        exact ⟨by first | rfl | (simp; done) | (simp [*]; done), HB.out⟩
    · have H := HH.out
      rw [if_neg c28] at H
      replace HH := Aside0.mk H
      clear H
      replace c28 := Bool.eq_false_iff.mpr c28
      subst c28
      have H := HH.out
      obtain rfl := Option.some.inj H
      clear HH
      go_wp2
      go_ret
      exact ⟨by first | rfl | (simp; done) | (simp [*]; done), (by repeat (first | (with_reducible first | exact HB.out | apply below_alloc | apply pw_below_drewN | apply below_drew1) | exact HB.out))⟩

end Go.Proofs.Ythdcofcikmeeeaa.GA
