-- written by wip/gen.py, a program of this session
import Derived.Test.YtkbiiijmgbjnkaaGA0
import Derived.Test.YtkbiiijmgbjnkaaGAF10
import Derived.Test.YtkbiiijmgbjnkaaGAF11
import Derived.Test.YtkbiiijmgbjnkaaGAF12
import Derived.Test.YtkbiiijmgbjnkaaGAF13
import Derived.Test.YtkbiiijmgbjnkaaGAF14
import Derived.Test.YtkbiiijmgbjnkaaGAF8
import Derived.Test.YtkbiiijmgbjnkaaGAF9
namespace Go.Proofs.Ytkbiiijmgbjnkaa.GA
open Go.RowKit Go.Proofs.Ytkbiiijmgbjnkaa Go.Proofs.Ytkbiiijmgbjnkaa.MW Go.Proofs.YtkbiiijmgbjnkaaW.PrintWords Go.Proofs.YtkbiiijmgbjnkaaW.PrintLast Go.Proofs.YtkbiiijmgbjnkaaW.PrintMore
attribute [local go_sem] max2_int min2_int max_two min_two
set_option linter.unusedVariables false
set_option linter.unusedSimpArgs false

/-! ### toponymlaw03_CharsKinds: function 3 -/
def toponymlaw03_CharsKinds.f (k : Nat) (a0 : Int) (l1 : List Int) : Option (Bool) := (chars_Kind.f a0).bind fun t1 => ((toponymref03_Kind.f k a0).bind fun t4 => (if t1 = t4 then (if (l1.length : Int) > 10000 then ((chars_Class.f a0).bind fun t13 => ((toponymref03_Class.f k a0).bind fun t16 => (if t13 = t16 then ((toponymlaw03_awake.f k ).bind fun t22 => (some t22)) else (some false)))) else ((chars_Is.f k a0 l1).bind fun t29 => ((toponymref03_Is.f k a0 l1).bind fun t32 => (if (t29 == t32) = true then ((chars_Class.f a0).bind fun t39 => ((toponymref03_Class.f k a0).bind fun t42 => (if t39 = t42 then ((toponymlaw03_awake.f k ).bind fun t48 => (some t48)) else (some false)))) else (some false))))) else (some false)))
theorem toponymlaw03_CharsKinds.mono : ∀ a0_ a1_ k, LeO (toponymlaw03_CharsKinds.f k a0_ a1_) (toponymlaw03_CharsKinds.f (k + 1) a0_ a1_) := by
  intro a0_ a1_ k
  unfold toponymlaw03_CharsKinds.f
  repeat' first
      | (with_reducible exact chars_Is.mono _ _ _)
      | (with_reducible exact toponymlaw03_awake.mono _)
      | (with_reducible exact toponymref03_Class.mono _ _)
      | (with_reducible exact toponymref03_Is.mono _ _ _)
      | (with_reducible exact toponymref03_Kind.mono _ _)
      | (with_reducible exact LeO.refl _)
      | (with_reducible exact LeO.none _)
      | (with_reducible refine LeO.ite ?_ ?_)
      | (with_reducible refine LeO.bind ?_ (fun _ => ?_))
      | exact chars_Is.mono _ _ _
      | exact toponymlaw03_awake.mono _
      | exact toponymref03_Class.mono _ _
      | exact toponymref03_Is.mono _ _ _
      | exact toponymref03_Kind.mono _ _
      | exact LeO.none _
      | refine LeO.ite ?_ ?_
      | refine LeO.bind ?_ (fun _ => ?_)
set_option maxHeartbeats 8000000 in
set_option maxRecDepth 100000 in
theorem toponymlaw03_CharsKinds.calls (k : Nat) (P_ : Nat → Prop) (a0 : Int) (A1 : Option Addr) (c1 : Nat) (l1 : List Int) (r : Bool) (w : World) (hs1 : Kd.F (Kd.int .i64) w P_ A1 l1.length l1) (hc1 : l1.length ≤ c1) (h : toponymlaw03_CharsKinds.f k a0 l1 = some r) :
    Calls Try.prog 3 #[.int .i32 a0, .slice A1 l1.length c1] w (fun e w' => e = .returned (.bool r) ∧ Below w.heap.size w w') := by
  have HH := Aside0.mk (show ((chars_Kind.f a0).bind fun t1 => ((toponymref03_Kind.f k a0).bind fun t4 => (if t1 = t4 then (if (l1.length : Int) > 10000 then ((chars_Class.f a0).bind fun t13 => ((toponymref03_Class.f k a0).bind fun t16 => (if t13 = t16 then ((toponymlaw03_awake.f k ).bind fun t22 => (some t22)) else (some false)))) else ((chars_Is.f k a0 l1).bind fun t29 => ((toponymref03_Is.f k a0 l1).bind fun t32 => (if (t29 == t32) = true then ((chars_Class.f a0).bind fun t39 => ((toponymref03_Class.f k a0).bind fun t42 => (if t39 = t42 then ((toponymlaw03_awake.f k ).bind fun t48 => (some t48)) else (some false)))) else (some false))))) else (some false)))) = some r from h)
  clear h
  have HF1 := Aside0.mk (Kd.F_mono hs1 (fun k_ hk_ => (.inl hk_ : P_ k_ ∨ w.heap.size ≤ k_)))
  have HL1 := Aside0.mk hc1
  clear hs1 hc1
  have HB := Aside0.mk (Below.refl w.heap.size w)
  go_enter Try.func3, Try.ntmps3
  have H := HH.out
  replace H := Option.bind_eq_some_iff.mp H
  obtain ⟨t1, at_, H⟩ := H
  have At2 := Aside0.mk at_
  clear at_
  replace HH := Aside0.mk (show ((toponymref03_Kind.f k a0).bind fun t4 => (if t1 = t4 then (if (l1.length : Int) > 10000 then ((chars_Class.f a0).bind fun t13 => ((toponymref03_Class.f k a0).bind fun t16 => (if t13 = t16 then ((toponymlaw03_awake.f k ).bind fun t22 => (some t22)) else (some false)))) else ((chars_Is.f k a0 l1).bind fun t29 => ((toponymref03_Is.f k a0 l1).bind fun t32 => (if (t29 == t32) = true then ((chars_Class.f a0).bind fun t39 => ((toponymref03_Class.f k a0).bind fun t42 => (if t39 = t42 then ((toponymlaw03_awake.f k ).bind fun t48 => (some t48)) else (some false)))) else (some false))))) else (some false))) = some r from H)
  clear H
  go_wp2_with (((with_reducible refine gate_callee (f := 8) rfl ?_); (try (refine gate_guard (by rfl) ?_; dsimp only)); refine goesL_ (some 6) rfl rfl Try.func8 (by kernel_rfl) rfl #[.int .i32 a0] rfl (by (try simp only [List.map_toArray, List.map_cons, List.map_nil]); first | done | rfl | (simp only [List.length_drop, List.length_take]; rfl)) ?_; (with_reducible refine (chars_Kind.calls  a0 t1 _  At2.out).mono ?_); rintro e w' ⟨rfl, ⟨nd, rfl⟩⟩; refine ⟨_, rfl, ?_⟩); refine stop_ ?_)
  refine Stop.go ?_
  have H := HH.out
  replace H := Option.bind_eq_some_iff.mp H
  obtain ⟨t4, at_, H⟩ := H
  have At5 := Aside0.mk at_
  clear at_
  replace HH := Aside0.mk (show (if t1 = t4 then (if (l1.length : Int) > 10000 then ((chars_Class.f a0).bind fun t13 => ((toponymref03_Class.f k a0).bind fun t16 => (if t13 = t16 then ((toponymlaw03_awake.f k ).bind fun t22 => (some t22)) else (some false)))) else ((chars_Is.f k a0 l1).bind fun t29 => ((toponymref03_Is.f k a0 l1).bind fun t32 => (if (t29 == t32) = true then ((chars_Class.f a0).bind fun t39 => ((toponymref03_Class.f k a0).bind fun t42 => (if t39 = t42 then ((toponymlaw03_awake.f k ).bind fun t48 => (some t48)) else (some false)))) else (some false))))) else (some false)) = some r from H)
  clear H
  go_wp2_with (((with_reducible refine gate_callee (f := 9) rfl ?_); (try (refine gate_guard (by rfl) ?_; dsimp only)); refine goesL_ (some 8) rfl rfl Try.func9 (by kernel_rfl) rfl #[.int .i32 a0] rfl (by (try simp only [List.map_toArray, List.map_cons, List.map_nil]); first | done | rfl | (simp only [List.length_drop, List.length_take]; rfl)) ?_; (with_reducible refine (toponymref03_Kind.calls k  a0 t4 _  At5.out).mono ?_); rintro e w6 ⟨rfl, hb⟩; refine ⟨_, rfl, ?_⟩); refine stop_ ?_)
  refine Stop.go ?_
  replace HF1 := Aside0.mk (Kd.F_below (by (with_reducible repeat (first | apply Kd.F_alloc | apply Kd.F_drewN | apply Kd.F_drew)); exact HF1.out) hb)
  replace HB := Aside0.mk (below_step (by repeat (first | (with_reducible first | exact HB.out | apply below_alloc | apply pw_below_drewN | apply below_drew1) | exact HB.out)) hb)
  clear hb
  by_cases c7 : t1 = t4
  · have H := HH.out
    rw [if_pos c7] at H
    replace HH := Aside0.mk H
    clear H
    have hk8 : (t1 == t4) = true := beq_iff_eq.mpr c7
    have hk9 : (t1 != t4) = false := bne_eq_false_iff_eq.mpr c7
    clear c7
    by_cases c10 : (l1.length : Int) > 10000
    · have H := HH.out
      rw [if_pos c10] at H
      replace HH := Aside0.mk H
      clear H
      have hk11 : decide (10000 < (l1.length : Int)) = true := decide_eq_true c10
      have hk12 : decide (10000 < l1.length) = true := decide_eq_true (by omega)
      clear c10
      have H := HH.out
      replace H := Option.bind_eq_some_iff.mp H
      obtain ⟨t13, at_, H⟩ := H
      have At14 := Aside0.mk at_
      clear at_
      replace HH := Aside0.mk (show ((toponymref03_Class.f k a0).bind fun t16 => (if t13 = t16 then ((toponymlaw03_awake.f k ).bind fun t22 => (some t22)) else (some false))) = some r from H)
      clear H
      go_wp2_with (((with_reducible refine gate_callee (f := 12) rfl ?_); (try (refine gate_guard (by rfl) ?_; dsimp only)); refine goesL_ (some 26) rfl rfl Try.func12 (by kernel_rfl) rfl #[.int .i32 a0] rfl (by (try simp only [List.map_toArray, List.map_cons, List.map_nil]); first | done | rfl | (simp only [List.length_drop, List.length_take]; rfl)) ?_; (with_reducible refine (chars_Class.calls  a0 t13 _  At14.out).mono ?_); rintro e w' ⟨rfl, ⟨nd, rfl⟩⟩; refine ⟨_, rfl, ?_⟩); refine stop_ ?_)
      refine Stop.go ?_
      have H := HH.out
      replace H := Option.bind_eq_some_iff.mp H
      obtain ⟨t16, at_, H⟩ := H
      have At17 := Aside0.mk at_
      clear at_
      replace HH := Aside0.mk (show (if t13 = t16 then ((toponymlaw03_awake.f k ).bind fun t22 => (some t22)) else (some false)) = some r from H)
      clear H
      go_wp2_with (((with_reducible refine gate_callee (f := 13) rfl ?_); (try (refine gate_guard (by rfl) ?_; dsimp only)); refine goesL_ (some 28) rfl rfl Try.func13 (by kernel_rfl) rfl #[.int .i32 a0] rfl (by (try simp only [List.map_toArray, List.map_cons, List.map_nil]); first | done | rfl | (simp only [List.length_drop, List.length_take]; rfl)) ?_; (with_reducible refine (toponymref03_Class.calls k  a0 t16 _  At17.out).mono ?_); rintro e w18 ⟨rfl, hb⟩; refine ⟨_, rfl, ?_⟩); refine stop_ ?_)
      refine Stop.go ?_
      replace HF1 := Aside0.mk (Kd.F_below (by (with_reducible repeat (first | apply Kd.F_alloc | apply Kd.F_drewN | apply Kd.F_drew)); exact HF1.out) hb)
      replace HB := Aside0.mk (below_step (by repeat (first | (with_reducible first | exact HB.out | apply below_alloc | apply pw_below_drewN | apply below_drew1) | exact HB.out)) hb)
      clear hb
      by_cases c19 : t13 = t16
      · have H := HH.out
        rw [if_pos c19] at H
        replace HH := Aside0.mk H
        clear H
        have hk20 : (t13 == t16) = true := beq_iff_eq.mpr c19
        have hk21 : (t13 != t16) = false := bne_eq_false_iff_eq.mpr c19
        clear c19
        have H := HH.out
        replace H := Option.bind_eq_some_iff.mp H
        obtain ⟨t22, at_, H⟩ := H
        have At23 := Aside0.mk at_
        clear at_
        replace HH := Aside0.mk (show (some t22) = some r from H)
        clear H
        go_wp2_with (((with_reducible refine gate_callee (f := 14) rfl ?_); (try (refine gate_guard (by rfl) ?_; dsimp only)); refine goesL_ (some 32) rfl rfl Try.func14 (by kernel_rfl) rfl #[] rfl (by (try simp only [List.map_toArray, List.map_cons, List.map_nil]); first | done | rfl | (simp only [List.length_drop, List.length_take]; rfl)) ?_; (with_reducible refine (toponymlaw03_awake.calls k  t22 _  At23.out).mono ?_); rintro e w24 ⟨rfl, hb⟩; refine ⟨_, rfl, ?_⟩); refine stop_ ?_)
        refine Stop.go ?_
        replace HF1 := Aside0.mk (Kd.F_below HF1.out hb)
        replace HB := Aside0.mk (below_step HB.out hb)
        clear hb
        have H := HH.out
        obtain rfl := Option.some.inj H
        clear HH
        go_wp2
        go_ret
        exact ⟨by first | rfl | (simp; done) | (simp [*]; done), HB.out⟩
      · have H := HH.out
        rw [if_neg c19] at H
        replace HH := Aside0.mk H
        clear H
        have hk25 : (t13 == t16) = false := beq_eq_false_iff_ne.mpr c19
        have hk26 : (t13 != t16) = true := bne_iff_ne.mpr c19
        clear c19
        have H := HH.out
        obtain rfl := Option.some.inj H
        clear HH
        go_wp2
        go_ret
        exact ⟨by first | rfl | (simp; done) | (simp [*]; done), HB.out⟩
    · have H := HH.out
      rw [if_neg c10] at H
      replace HH := Aside0.mk H
      clear H
      have hk27 : decide (10000 < (l1.length : Int)) = false := decide_eq_false c10
      have hk28 : decide (10000 < l1.length) = false := decide_eq_false (by omega)
      clear c10
      have H := HH.out
      replace H := Option.bind_eq_some_iff.mp H
      obtain ⟨t29, at_, H⟩ := H
      have At30 := Aside0.mk at_
      clear at_
      replace HH := Aside0.mk (show ((toponymref03_Is.f k a0 l1).bind fun t32 => (if (t29 == t32) = true then ((chars_Class.f a0).bind fun t39 => ((toponymref03_Class.f k a0).bind fun t42 => (if t39 = t42 then ((toponymlaw03_awake.f k ).bind fun t48 => (some t48)) else (some false)))) else (some false))) = some r from H)
      clear H
      go_wp2_with (((with_reducible refine gate_callee (f := 10) rfl ?_); (try (refine gate_guard (by rfl) ?_; dsimp only)); refine goesL_ (some 17) rfl rfl Try.func10 (by kernel_rfl) rfl #[.int .i32 a0, .slice A1 l1.length c1] rfl (by (try simp only [List.map_toArray, List.map_cons, List.map_nil]); first | done | rfl | (simp only [List.length_drop, List.length_take]; rfl)) ?_; (with_reducible refine (chars_Is.calls k (fun k_ => (P_ k_ ∨ w.heap.size ≤ k_)) a0 _ _ l1 t29 _ (Kd.F_mono (ok := (fun k_ => (P_ k_ ∨ w.heap.size ≤ k_))) HF1.out (fun k_ hk_ => hk_)) HL1.out At30.out).mono ?_); rintro e w' ⟨rfl, ⟨nd, rfl⟩⟩; refine ⟨_, rfl, ?_⟩); refine stop_ ?_)
      refine Stop.go ?_
      have H := HH.out
      replace H := Option.bind_eq_some_iff.mp H
      obtain ⟨t32, at_, H⟩ := H
      have At33 := Aside0.mk at_
      clear at_
      replace HH := Aside0.mk (show (if (t29 == t32) = true then ((chars_Class.f a0).bind fun t39 => ((toponymref03_Class.f k a0).bind fun t42 => (if t39 = t42 then ((toponymlaw03_awake.f k ).bind fun t48 => (some t48)) else (some false)))) else (some false)) = some r from H)
      clear H
      go_wp2_with (((with_reducible refine gate_callee (f := 11) rfl ?_); (try (refine gate_guard (by rfl) ?_; dsimp only)); refine goesL_ (some 20) rfl rfl Try.func11 (by kernel_rfl) rfl #[.int .i32 a0, .slice A1 l1.length c1] rfl (by (try simp only [List.map_toArray, List.map_cons, List.map_nil]); first | done | rfl | (simp only [List.length_drop, List.length_take]; rfl)) ?_; (with_reducible refine (toponymref03_Is.calls k (fun k_ => (P_ k_ ∨ w.heap.size ≤ k_)) a0 _ _ l1 t32 _ (Kd.F_mono (ok := (fun k_ => (P_ k_ ∨ w.heap.size ≤ k_))) (by (with_reducible repeat (first | apply Kd.F_alloc | apply Kd.F_drewN | apply Kd.F_drew)); exact HF1.out) (fun k_ hk_ => hk_)) HL1.out At33.out).mono ?_); rintro e w34 ⟨rfl, hb⟩; refine ⟨_, rfl, ?_⟩); refine stop_ ?_)
      refine Stop.go ?_
      replace HF1 := Aside0.mk (Kd.F_below (by (with_reducible repeat (first | apply Kd.F_alloc | apply Kd.F_drewN | apply Kd.F_drew)); exact HF1.out) hb)
      replace HB := Aside0.mk (below_step (by repeat (first | (with_reducible first | exact HB.out | apply below_alloc | apply pw_below_drewN | apply below_drew1) | exact HB.out)) hb)
      clear hb
      by_cases c35 : (t29 == t32) = true
      · have H := HH.out
        rw [if_pos c35] at H
        replace HH := Aside0.mk H
        clear H
        have hk36 : (t29 == t32) = true := c35
        try have hk37 : decide (t29 = t32) = true := by simpa using c35
        try have hk38 : (t29 == t32) = true := by simpa using c35
        clear c35
        have H := HH.out
        replace H := Option.bind_eq_some_iff.mp H
        obtain ⟨t39, at_, H⟩ := H
        have At40 := Aside0.mk at_
        clear at_
        replace HH := Aside0.mk (show ((toponymref03_Class.f k a0).bind fun t42 => (if t39 = t42 then ((toponymlaw03_awake.f k ).bind fun t48 => (some t48)) else (some false))) = some r from H)
        clear H
        go_wp2_with (((with_reducible refine gate_callee (f := 12) rfl ?_); (try (refine gate_guard (by rfl) ?_; dsimp only)); refine goesL_ (some 26) rfl rfl Try.func12 (by kernel_rfl) rfl #[.int .i32 a0] rfl (by (try simp only [List.map_toArray, List.map_cons, List.map_nil]); first | done | rfl | (simp only [List.length_drop, List.length_take]; rfl)) ?_; (with_reducible refine (chars_Class.calls  a0 t39 _  At40.out).mono ?_); rintro e w' ⟨rfl, ⟨nd, rfl⟩⟩; refine ⟨_, rfl, ?_⟩); refine stop_ ?_)
        refine Stop.go ?_
        have H := HH.out
        replace H := Option.bind_eq_some_iff.mp H
        obtain ⟨t42, at_, H⟩ := H
        have At43 := Aside0.mk at_
        clear at_
        replace HH := Aside0.mk (show (if t39 = t42 then ((toponymlaw03_awake.f k ).bind fun t48 => (some t48)) else (some false)) = some r from H)
        clear H
        go_wp2_with (((with_reducible refine gate_callee (f := 13) rfl ?_); (try (refine gate_guard (by rfl) ?_; dsimp only)); refine goesL_ (some 28) rfl rfl Try.func13 (by kernel_rfl) rfl #[.int .i32 a0] rfl (by (try simp only [List.map_toArray, List.map_cons, List.map_nil]); first | done | rfl | (simp only [List.length_drop, List.length_take]; rfl)) ?_; (with_reducible refine (toponymref03_Class.calls k  a0 t42 _  At43.out).mono ?_); rintro e w44 ⟨rfl, hb⟩; refine ⟨_, rfl, ?_⟩); refine stop_ ?_)
        refine Stop.go ?_
        replace HF1 := Aside0.mk (Kd.F_below (by (with_reducible repeat (first | apply Kd.F_alloc | apply Kd.F_drewN | apply Kd.F_drew)); exact HF1.out) hb)
        replace HB := Aside0.mk (below_step (by repeat (first | (with_reducible first | exact HB.out | apply below_alloc | apply pw_below_drewN | apply below_drew1) | exact HB.out)) hb)
        clear hb
        by_cases c45 : t39 = t42
        · have H := HH.out
          rw [if_pos c45] at H
          replace HH := Aside0.mk H
          clear H
          have hk46 : (t39 == t42) = true := beq_iff_eq.mpr c45
          have hk47 : (t39 != t42) = false := bne_eq_false_iff_eq.mpr c45
          clear c45
          have H := HH.out
          replace H := Option.bind_eq_some_iff.mp H
          obtain ⟨t48, at_, H⟩ := H
          have At49 := Aside0.mk at_
          clear at_
          replace HH := Aside0.mk (show (some t48) = some r from H)
          clear H
          go_wp2_with (((with_reducible refine gate_callee (f := 14) rfl ?_); (try (refine gate_guard (by rfl) ?_; dsimp only)); refine goesL_ (some 32) rfl rfl Try.func14 (by kernel_rfl) rfl #[] rfl (by (try simp only [List.map_toArray, List.map_cons, List.map_nil]); first | done | rfl | (simp only [List.length_drop, List.length_take]; rfl)) ?_; (with_reducible refine (toponymlaw03_awake.calls k  t48 _  At49.out).mono ?_); rintro e w50 ⟨rfl, hb⟩; refine ⟨_, rfl, ?_⟩); refine stop_ ?_)
          refine Stop.go ?_
          replace HF1 := Aside0.mk (Kd.F_below HF1.out hb)
          replace HB := Aside0.mk (below_step HB.out hb)
          clear hb
          have H := HH.out
          obtain rfl := Option.some.inj H
          clear HH
          go_wp2
          go_ret
          exact ⟨by first | rfl | (simp; done) | (simp [*]; done), HB.out⟩
        · have H := HH.out
          rw [if_neg c45] at H
          replace HH := Aside0.mk H
          clear H
          have hk51 : (t39 == t42) = false := beq_eq_false_iff_ne.mpr c45
          have hk52 : (t39 != t42) = true := bne_iff_ne.mpr c45
          clear c45
          have H := HH.out
          obtain rfl := Option.some.inj H
          clear HH
          go_wp2
          go_ret
          exact ⟨by first | rfl | (simp; done) | (simp [*]; done), HB.out⟩
      · have H := HH.out
        rw [if_neg c35] at H
        replace HH := Aside0.mk H
        clear H
        have hk53 : (t29 == t32) = false := by simpa using c35
        try have hk54 : decide (t29 = t32) = false := by simpa using c35
        try have hk55 : (t29 == t32) = false := by simpa using c35
        try have hk56 : ¬ (t29 = t32) := by simpa using c35
        clear c35
        have H := HH.out
        obtain rfl := Option.some.inj H
        clear HH
        go_wp2
        go_ret
        exact ⟨by first | rfl | (simp; done) | (simp [*]; done), HB.out⟩
  · have H := HH.out
    rw [if_neg c7] at H
    replace HH := Aside0.mk H
    clear H
    have hk57 : (t1 == t4) = false := beq_eq_false_iff_ne.mpr c7
    have hk58 : (t1 != t4) = true := bne_iff_ne.mpr c7
    clear c7
    have H := HH.out
    obtain rfl := Option.some.inj H
    clear HH
    go_wp2
    go_ret
    exact ⟨by first | rfl | (simp; done) | (simp [*]; done), HB.out⟩

end Go.Proofs.Ytkbiiijmgbjnkaa.GA
