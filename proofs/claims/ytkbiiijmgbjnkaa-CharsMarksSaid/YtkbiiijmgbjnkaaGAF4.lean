-- written by wip/gen.py, a program of this session
import Derived.Test.YtkbiiijmgbjnkaaGA0
import Derived.Test.YtkbiiijmgbjnkaaGAF10
import Derived.Test.YtkbiiijmgbjnkaaGAF12
import Derived.Test.YtkbiiijmgbjnkaaGAF14
import Derived.Test.YtkbiiijmgbjnkaaGAF8
namespace Go.Proofs.Ytkbiiijmgbjnkaa.GA
open Go.RowKit Go.Proofs.Ytkbiiijmgbjnkaa Go.Proofs.Ytkbiiijmgbjnkaa.MW Go.Proofs.YtkbiiijmgbjnkaaW.PrintWords Go.Proofs.YtkbiiijmgbjnkaaW.PrintLast Go.Proofs.YtkbiiijmgbjnkaaW.PrintMore
attribute [local go_sem] max2_int min2_int max_two min_two
set_option linter.unusedVariables false
set_option linter.unusedSimpArgs false

/-! ### toponymlaw03_CharsMarks: function 4 -/
def toponymlaw03_CharsMarks.f (k : Nat) (a0 : Int) : Option (Bool) := (chars_Kind.f a0).bind fun t1 => (if t1 < 0 then (some false) else (if t1 > 7 then (some false) else ((chars_Is.f k a0 ([t1] : List Int)).bind fun t19 => (if t19 = true then ((chars_Is.f k a0 ([wrap64 (t1 + 1)] : List Int)).bind fun t30 => (if t30 = true then (some false) else ((chars_Class.f a0).bind fun t34 => (if ((t34 != 0) == (t1 == 3)) = true then (if a0 ≥ 0 then (if a0 ≤ 1114111 then ((toponymlaw03_awake.f k ).bind fun t45 => (some t45)) else (if t1 = 0 then ((toponymlaw03_awake.f k ).bind fun t52 => (some t52)) else (some false))) else (if t1 = 0 then ((toponymlaw03_awake.f k ).bind fun t61 => (some t61)) else (some false))) else (some false))))) else (some false)))))
theorem toponymlaw03_CharsMarks.mono : ∀ a0_ k, LeO (toponymlaw03_CharsMarks.f k a0_) (toponymlaw03_CharsMarks.f (k + 1) a0_) := by
  intro a0_ k
  unfold toponymlaw03_CharsMarks.f
  repeat' first
      | (with_reducible exact chars_Is.mono _ _ _)
      | (with_reducible exact toponymlaw03_awake.mono _)
      | (with_reducible exact LeO.refl _)
      | (with_reducible exact LeO.none _)
      | (with_reducible refine LeO.ite ?_ ?_)
      | (with_reducible refine LeO.bind ?_ (fun _ => ?_))
      | exact chars_Is.mono _ _ _
      | exact toponymlaw03_awake.mono _
      | exact LeO.none _
      | refine LeO.ite ?_ ?_
      | refine LeO.bind ?_ (fun _ => ?_)
set_option maxHeartbeats 8000000 in
set_option maxRecDepth 100000 in
theorem toponymlaw03_CharsMarks.calls (k : Nat) (a0 : Int) (r : Bool) (w : World) (h : toponymlaw03_CharsMarks.f k a0 = some r) :
    Calls Try.prog 4 #[.int .i32 a0] w (fun e w' => e = .returned (.bool r) ∧ Below w.heap.size w w') := by
  have HH := Aside0.mk (show ((chars_Kind.f a0).bind fun t1 => (if t1 < 0 then (some false) else (if t1 > 7 then (some false) else ((chars_Is.f k a0 ([t1] : List Int)).bind fun t19 => (if t19 = true then ((chars_Is.f k a0 ([wrap64 (t1 + 1)] : List Int)).bind fun t30 => (if t30 = true then (some false) else ((chars_Class.f a0).bind fun t34 => (if ((t34 != 0) == (t1 == 3)) = true then (if a0 ≥ 0 then (if a0 ≤ 1114111 then ((toponymlaw03_awake.f k ).bind fun t45 => (some t45)) else (if t1 = 0 then ((toponymlaw03_awake.f k ).bind fun t52 => (some t52)) else (some false))) else (if t1 = 0 then ((toponymlaw03_awake.f k ).bind fun t61 => (some t61)) else (some false))) else (some false))))) else (some false)))))) = some r from h)
  clear h
  have HB := Aside0.mk (Below.refl w.heap.size w)
  go_enter Try.func4, Try.ntmps4
  have H := HH.out
  replace H := Option.bind_eq_some_iff.mp H
  obtain ⟨t1, at_, H⟩ := H
  have At2 := Aside0.mk at_
  clear at_
  replace HH := Aside0.mk (show (if t1 < 0 then (some false) else (if t1 > 7 then (some false) else ((chars_Is.f k a0 ([t1] : List Int)).bind fun t19 => (if t19 = true then ((chars_Is.f k a0 ([wrap64 (t1 + 1)] : List Int)).bind fun t30 => (if t30 = true then (some false) else ((chars_Class.f a0).bind fun t34 => (if ((t34 != 0) == (t1 == 3)) = true then (if a0 ≥ 0 then (if a0 ≤ 1114111 then ((toponymlaw03_awake.f k ).bind fun t45 => (some t45)) else (if t1 = 0 then ((toponymlaw03_awake.f k ).bind fun t52 => (some t52)) else (some false))) else (if t1 = 0 then ((toponymlaw03_awake.f k ).bind fun t61 => (some t61)) else (some false))) else (some false))))) else (some false))))) = some r from H)
  clear H
  go_wp2_with (((with_reducible refine gate_callee (f := 8) rfl ?_); (try (refine gate_guard (by rfl) ?_; dsimp only)); refine goesL_ (some 5) rfl rfl Try.func8 (by kernel_rfl) rfl #[.int .i32 a0] rfl (by (try simp only [List.map_toArray, List.map_cons, List.map_nil]); first | done | rfl | (simp only [List.length_drop, List.length_take]; rfl)) ?_; (with_reducible refine (chars_Kind.calls  a0 t1 _  At2.out).mono ?_); rintro e w' ⟨rfl, ⟨nd, rfl⟩⟩; refine ⟨_, rfl, ?_⟩); refine stop_ ?_)
  refine Stop.go ?_
  by_cases c4 : t1 < 0
  · have H := HH.out
    rw [if_pos c4] at H
    replace HH := Aside0.mk H
    clear H
    have hk5 : (t1 < 0) = True := eq_true c4
    have hk6 : decide (t1 < 0) = true := decide_eq_true c4
    clear c4
    have H := HH.out
    obtain rfl := Option.some.inj H
    clear HH
    go_wp2
    go_ret
    exact ⟨by first | rfl | (simp; done) | (simp [*]; done), (by repeat (first | (with_reducible first | exact HB.out | apply below_alloc | apply pw_below_drewN | apply below_drew1) | exact HB.out))⟩
  · have H := HH.out
    rw [if_neg c4] at H
    replace HH := Aside0.mk H
    clear H
    have hk7 : (t1 < 0) = False := eq_false c4
    have hk8 : decide (t1 < 0) = false := decide_eq_false c4
    clear c4
    by_cases c9 : t1 > 7
    · have H := HH.out
      rw [if_pos c9] at H
      replace HH := Aside0.mk H
      clear H
      have hk10 : decide (7 < t1) = true := decide_eq_true c9
      clear c9
      have H := HH.out
      obtain rfl := Option.some.inj H
      clear HH
      go_wp2
      go_ret
      exact ⟨by first | rfl | (simp; done) | (simp [*]; done), (by repeat (first | (with_reducible first | exact HB.out | apply below_alloc | apply pw_below_drewN | apply below_drew1) | exact HB.out))⟩
    · have H := HH.out
      rw [if_neg c9] at H
      replace HH := Aside0.mk H
      clear H
      have hk11 : decide (7 < t1) = false := decide_eq_false c9
      clear c9
      go_wp2_with (((with_reducible refine gate_dst (N := 15) rfl ?_); (try (refine gate_guard (by rfl) ?_; dsimp only)); refine Kd.N_lit (Kd.int .i64) w.heap.size 3 rfl (N' := 15) rfl (xs := ([t1] : List Int)) (inner := [.int .i64 t1]) (ok := (fun k_ => (w.heap.size ≤ k_))) (okp := (fun k_ => (w.heap.size ≤ k_))) ?hr ?hp (fun _ hk_ => hk_) ?hf (by repeat (first | (with_reducible first | exact HB.out | apply below_alloc | apply pw_below_drewN | apply below_drew1) | exact HB.out)) (below_size (by repeat (first | (with_reducible first | exact HB.out | apply below_alloc | apply pw_below_drewN | apply below_drew1) | exact HB.out))) (by first | simp | decide) ?_; (case hr => first | (go_simp; done) | (go_simp; rfl)); (case hp => exact (Reps.one (fun _ _ => rfl) (Reps.none _ _))); (case hf => exact (show ∀ k_, w.heap.size ≤ k_ → (fun k_ => (w.heap.size ≤ k_)) k_ from fun k_ h_ => (Nat.le_trans (below_size (by repeat (first | (with_reducible first | exact HB.out | apply below_alloc | apply pw_below_drewN | apply below_drew1) | exact HB.out))) h_)) _ (Nat.le_refl _)); intro v12 w13 hn1 hb1 hg1 hat1); replace hat1 := Aside0.mk hat1; refine stop_ ?_)
      refine Stop.go ?_
      replace hat1 := hat1.out
      have hbe := MW.grown_below hg1
      have hba := MW.base_of hat1
      replace HB := Aside0.mk hb1
      have HN14 := Aside0.mk hn1
      clear hn1 hb1 hg1 hat1 hbe hba
      obtain ⟨A15, cp16, he_⟩ := Kd.N_slice HN14.out
      subst he_
      have HL18 := Aside0.mk (Kd.N_reads' HN14.out).2.1
      have HF17 := Aside0.mk (Kd.N_F HN14.out)
      clear HN14
      have H := HH.out
      replace H := Option.bind_eq_some_iff.mp H
      obtain ⟨t19, at_, H⟩ := H
      have At20 := Aside0.mk at_
      clear at_
      replace HH := Aside0.mk (show (if t19 = true then ((chars_Is.f k a0 ([wrap64 (t1 + 1)] : List Int)).bind fun t30 => (if t30 = true then (some false) else ((chars_Class.f a0).bind fun t34 => (if ((t34 != 0) == (t1 == 3)) = true then (if a0 ≥ 0 then (if a0 ≤ 1114111 then ((toponymlaw03_awake.f k ).bind fun t45 => (some t45)) else (if t1 = 0 then ((toponymlaw03_awake.f k ).bind fun t52 => (some t52)) else (some false))) else (if t1 = 0 then ((toponymlaw03_awake.f k ).bind fun t61 => (some t61)) else (some false))) else (some false))))) else (some false)) = some r from H)
      clear H
      go_wp2_with (((with_reducible refine gate_callee (f := 10) rfl ?_); (try (refine gate_guard (by rfl) ?_; dsimp only)); refine goesL_ (some 16) rfl rfl Try.func10 (by kernel_rfl) rfl #[.int .i32 a0, .slice A15 ([t1] : List Int).length cp16] rfl (by (try simp only [List.map_toArray, List.map_cons, List.map_nil]); first | done | rfl | (simp only [List.length_drop, List.length_take]; rfl)) ?_; (with_reducible refine (chars_Is.calls k (fun k_ => (w.heap.size ≤ k_)) a0 _ _ ([t1] : List Int) t19 _ (Kd.F_mono (ok := (fun k_ => (w.heap.size ≤ k_))) HF17.out (fun k_ hk_ => hk_)) HL18.out At20.out).mono ?_); rintro e w' ⟨rfl, ⟨nd, rfl⟩⟩; refine ⟨_, rfl, ?_⟩); refine stop_ ?_)
      refine Stop.go ?_
      by_cases c22 : t19 = true
      · have H := HH.out
        rw [if_pos c22] at H
        replace HH := Aside0.mk H
        clear H
        subst c22
        go_wp2_with (((with_reducible refine gate_dst (N := 23) rfl ?_); (try (refine gate_guard (by rfl) ?_; dsimp only)); refine Kd.N_lit (Kd.int .i64) w.heap.size 3 rfl (N' := 23) rfl (xs := ([wrap64 (t1 + 1)] : List Int)) (inner := [.int .i64 (wrap64 (t1 + 1))]) (ok := (fun k_ => (w.heap.size ≤ k_))) (okp := (fun k_ => (w.heap.size ≤ k_))) ?hr ?hp (fun _ hk_ => hk_) ?hf (by repeat (first | (with_reducible first | exact HB.out | apply below_alloc | apply pw_below_drewN | apply below_drew1) | exact HB.out)) (below_size (by repeat (first | (with_reducible first | exact HB.out | apply below_alloc | apply pw_below_drewN | apply below_drew1) | exact HB.out))) (by first | simp | decide) ?_; (case hr => first | (go_simp; done) | (go_simp; rfl)); (case hp => exact (Reps.one (fun _ _ => rfl) (Reps.none _ _))); (case hf => exact (show ∀ k_, w13.heap.size ≤ k_ → (fun k_ => (w.heap.size ≤ k_)) k_ from fun k_ h_ => (Nat.le_trans (below_size (by repeat (first | (with_reducible first | exact HB.out | apply below_alloc | apply pw_below_drewN | apply below_drew1) | exact HB.out))) h_)) _ (Nat.le_refl _)); intro v23 w24 hn1 hb1 hg1 hat1); replace hat1 := Aside0.mk hat1; refine stop_ ?_)
        refine Stop.go ?_
        replace hat1 := hat1.out
        have hbe := MW.grown_below hg1
        have hba := MW.base_of hat1
        replace HF17 := Aside0.mk (Kd.F_mono (Kd.F_elder' (ok := (fun k_ => (w.heap.size ≤ k_))) (by (with_reducible repeat (first | apply Kd.F_alloc | apply Kd.F_drewN | apply Kd.F_drew)); exact HF17.out) hba hbe) (fun k_ hk_ => ⟨hk_.1, hk_.2⟩) : Kd.F (Kd.int .i64) _ (fun k_ => (w.heap.size ≤ k_) ∧ some k_ ≠ (v23 : Value).ownBlock) _ _ _)
        replace HB := Aside0.mk hb1
        have HN25 := Aside0.mk hn1
        clear hn1 hb1 hg1 hat1 hbe hba
        obtain ⟨A26, cp27, he_⟩ := Kd.N_slice HN25.out
        subst he_
        have HL29 := Aside0.mk (Kd.N_reads' HN25.out).2.1
        have HF28 := Aside0.mk (Kd.N_F HN25.out)
        clear HN25
        replace HF17 := Aside0.mk (Kd.F_mono (ok := (fun k_ => (w.heap.size ≤ k_) ∧ some k_ ≠ ((.slice A26 ([wrap64 (t1 + 1)] : List Int).length cp27) : Value).ownBlock)) HF17.out (fun k_ hk_ => hk_.1) : Kd.F (Kd.int .i64) _ (fun k_ => (w.heap.size ≤ k_)) _ _ _)
        have H := HH.out
        replace H := Option.bind_eq_some_iff.mp H
        obtain ⟨t30, at_, H⟩ := H
        have At31 := Aside0.mk at_
        clear at_
        replace HH := Aside0.mk (show (if t30 = true then (some false) else ((chars_Class.f a0).bind fun t34 => (if ((t34 != 0) == (t1 == 3)) = true then (if a0 ≥ 0 then (if a0 ≤ 1114111 then ((toponymlaw03_awake.f k ).bind fun t45 => (some t45)) else (if t1 = 0 then ((toponymlaw03_awake.f k ).bind fun t52 => (some t52)) else (some false))) else (if t1 = 0 then ((toponymlaw03_awake.f k ).bind fun t61 => (some t61)) else (some false))) else (some false)))) = some r from H)
        clear H
        go_wp2_with (((with_reducible refine gate_callee (f := 10) rfl ?_); (try (refine gate_guard (by rfl) ?_; dsimp only)); refine goesL_ (some 24) rfl rfl Try.func10 (by kernel_rfl) rfl #[.int .i32 a0, .slice A26 ([wrap64 (t1 + 1)] : List Int).length cp27] rfl (by (try simp only [List.map_toArray, List.map_cons, List.map_nil]); first | done | rfl | (simp only [List.length_drop, List.length_take]; rfl)) ?_; (with_reducible refine (chars_Is.calls k (fun k_ => (w.heap.size ≤ k_)) a0 _ _ ([wrap64 (t1 + 1)] : List Int) t30 _ (Kd.F_mono (ok := (fun k_ => (w.heap.size ≤ k_))) HF28.out (fun k_ hk_ => hk_)) HL29.out At31.out).mono ?_); rintro e w' ⟨rfl, ⟨nd, rfl⟩⟩; refine ⟨_, rfl, ?_⟩); refine stop_ ?_)
        refine Stop.go ?_
        by_cases c33 : t30 = true
        · have H := HH.out
          rw [if_pos c33] at H
          replace HH := Aside0.mk H
          clear H
          subst c33
          have H := HH.out
          obtain rfl := Option.some.inj H
          clear HH
          go_wp2
          go_ret
          exact ⟨by first | rfl | (simp; done) | (simp [*]; done), (by repeat (first | (with_reducible first | exact HB.out | apply below_alloc | apply pw_below_drewN | apply below_drew1) | exact HB.out))⟩
        · have H := HH.out
          rw [if_neg c33] at H
          replace HH := Aside0.mk H
          clear H
          replace c33 := Bool.eq_false_iff.mpr c33
          subst c33
          have H := HH.out
          replace H := Option.bind_eq_some_iff.mp H
          obtain ⟨t34, at_, H⟩ := H
          have At35 := Aside0.mk at_
          clear at_
          replace HH := Aside0.mk (show (if ((t34 != 0) == (t1 == 3)) = true then (if a0 ≥ 0 then (if a0 ≤ 1114111 then ((toponymlaw03_awake.f k ).bind fun t45 => (some t45)) else (if t1 = 0 then ((toponymlaw03_awake.f k ).bind fun t52 => (some t52)) else (some false))) else (if t1 = 0 then ((toponymlaw03_awake.f k ).bind fun t61 => (some t61)) else (some false))) else (some false)) = some r from H)
          clear H
          go_wp2_with (((with_reducible refine gate_callee (f := 12) rfl ?_); (try (refine gate_guard (by rfl) ?_; dsimp only)); refine goesL_ (some 27) rfl rfl Try.func12 (by kernel_rfl) rfl #[.int .i32 a0] rfl (by (try simp only [List.map_toArray, List.map_cons, List.map_nil]); first | done | rfl | (simp only [List.length_drop, List.length_take]; rfl)) ?_; (with_reducible refine (chars_Class.calls  a0 t34 _  At35.out).mono ?_); rintro e w' ⟨rfl, ⟨nd, rfl⟩⟩; refine ⟨_, rfl, ?_⟩); refine stop_ ?_)
          refine Stop.go ?_
          by_cases c37 : ((t34 != 0) == (t1 == 3)) = true
          · have H := HH.out
            rw [if_pos c37] at H
            replace HH := Aside0.mk H
            clear H
            have hk38 : ((t34 != 0) == (t1 == 3)) = true := c37
            try have hk39 : decide ((t34 != 0) = (t1 == 3)) = true := by simpa using c37
            try have hk40 : ((t34 != 0) == (t1 == 3)) = true := by simpa using c37
            clear c37
            by_cases c41 : a0 ≥ 0
            · have H := HH.out
              rw [if_pos c41] at H
              replace HH := Aside0.mk H
              clear H
              have hk42 : decide (0 ≤ a0) = true := decide_eq_true c41
              clear c41
              by_cases c43 : a0 ≤ 1114111
              · have H := HH.out
                rw [if_pos c43] at H
                replace HH := Aside0.mk H
                clear H
                have hk44 : decide (a0 ≤ 1114111) = true := decide_eq_true c43
                clear c43
                have H := HH.out
                replace H := Option.bind_eq_some_iff.mp H
                obtain ⟨t45, at_, H⟩ := H
                have At46 := Aside0.mk at_
                clear at_
                replace HH := Aside0.mk (show (some t45) = some r from H)
                clear H
                go_wp2_with (((with_reducible refine gate_callee (f := 14) rfl ?_); (try (refine gate_guard (by rfl) ?_; dsimp only)); refine goesL_ (some 45) rfl rfl Try.func14 (by kernel_rfl) rfl #[] rfl (by (try simp only [List.map_toArray, List.map_cons, List.map_nil]); first | done | rfl | (simp only [List.length_drop, List.length_take]; rfl)) ?_; (with_reducible refine (toponymlaw03_awake.calls k  t45 _  At46.out).mono ?_); rintro e w47 ⟨rfl, hb⟩; refine ⟨_, rfl, ?_⟩); refine stop_ ?_)
                refine Stop.go ?_
                replace HF17 := Aside0.mk (Kd.F_below (by (with_reducible repeat (first | apply Kd.F_alloc | apply Kd.F_drewN | apply Kd.F_drew)); exact HF17.out) hb)
                replace HF28 := Aside0.mk (Kd.F_below (by (with_reducible repeat (first | apply Kd.F_alloc | apply Kd.F_drewN | apply Kd.F_drew)); exact HF28.out) hb)
                replace HB := Aside0.mk (below_step (by repeat (first | (with_reducible first | exact HB.out | apply below_alloc | apply pw_below_drewN | apply below_drew1) | exact HB.out)) hb)
                clear hb
                have H := HH.out
                obtain rfl := Option.some.inj H
                clear HH
                go_wp2
                go_ret
                exact ⟨by first | rfl | (simp; done) | (simp [*]; done), HB.out⟩
              · have H := HH.out
                rw [if_neg c43] at H
                replace HH := Aside0.mk H
                clear H
                have hk48 : decide (a0 ≤ 1114111) = false := decide_eq_false c43
                clear c43
                by_cases c49 : t1 = 0
                · have H := HH.out
                  rw [if_pos c49] at H
                  replace HH := Aside0.mk H
                  clear H
                  have hk50 : (t1 == 0) = true := beq_iff_eq.mpr c49
                  have hk51 : (t1 != 0) = false := bne_eq_false_iff_eq.mpr c49
                  clear c49
                  have H := HH.out
                  replace H := Option.bind_eq_some_iff.mp H
                  obtain ⟨t52, at_, H⟩ := H
                  have At53 := Aside0.mk at_
                  clear at_
                  replace HH := Aside0.mk (show (some t52) = some r from H)
                  clear H
                  go_wp2_with (((with_reducible refine gate_callee (f := 14) rfl ?_); (try (refine gate_guard (by rfl) ?_; dsimp only)); refine goesL_ (some 45) rfl rfl Try.func14 (by kernel_rfl) rfl #[] rfl (by (try simp only [List.map_toArray, List.map_cons, List.map_nil]); first | done | rfl | (simp only [List.length_drop, List.length_take]; rfl)) ?_; (with_reducible refine (toponymlaw03_awake.calls k  t52 _  At53.out).mono ?_); rintro e w54 ⟨rfl, hb⟩; refine ⟨_, rfl, ?_⟩); refine stop_ ?_)
                  refine Stop.go ?_
                  replace HF17 := Aside0.mk (Kd.F_below (by (with_reducible repeat (first | apply Kd.F_alloc | apply Kd.F_drewN | apply Kd.F_drew)); exact HF17.out) hb)
                  replace HF28 := Aside0.mk (Kd.F_below (by (with_reducible repeat (first | apply Kd.F_alloc | apply Kd.F_drewN | apply Kd.F_drew)); exact HF28.out) hb)
                  replace HB := Aside0.mk (below_step (by repeat (first | (with_reducible first | exact HB.out | apply below_alloc | apply pw_below_drewN | apply below_drew1) | exact HB.out)) hb)
                  clear hb
                  have H := HH.out
                  obtain rfl := Option.some.inj H
                  clear HH
                  go_wp2
                  go_ret
                  exact ⟨by first | rfl | (simp; done) | (simp [*]; done), HB.out⟩
                · have H := HH.out
                  rw [if_neg c49] at H
                  replace HH := Aside0.mk H
                  clear H
                  have hk55 : (t1 == 0) = false := beq_eq_false_iff_ne.mpr c49
                  have hk56 : (t1 != 0) = true := bne_iff_ne.mpr c49
                  clear c49
                  have H := HH.out
                  obtain rfl := Option.some.inj H
                  clear HH
                  go_wp2
                  go_ret
                  exact ⟨by first | rfl | (simp; done) | (simp [*]; done), (by repeat (first | (with_reducible first | exact HB.out | apply below_alloc | apply pw_below_drewN | apply below_drew1) | exact HB.out))⟩
            · have H := HH.out
              rw [if_neg c41] at H
              replace HH := Aside0.mk H
              clear H
              have hk57 : decide (0 ≤ a0) = false := decide_eq_false c41
              clear c41
              by_cases c58 : t1 = 0
              · have H := HH.out
                rw [if_pos c58] at H
                replace HH := Aside0.mk H
                clear H
                have hk59 : (t1 == 0) = true := beq_iff_eq.mpr c58
                have hk60 : (t1 != 0) = false := bne_eq_false_iff_eq.mpr c58
                clear c58
                have H := HH.out
                replace H := Option.bind_eq_some_iff.mp H
                obtain ⟨t61, at_, H⟩ := H
                have At62 := Aside0.mk at_
                clear at_
                replace HH := Aside0.mk (show (some t61) = some r from H)
                clear H
                go_wp2_with (((with_reducible refine gate_callee (f := 14) rfl ?_); (try (refine gate_guard (by rfl) ?_; dsimp only)); refine goesL_ (some 45) rfl rfl Try.func14 (by kernel_rfl) rfl #[] rfl (by (try simp only [List.map_toArray, List.map_cons, List.map_nil]); first | done | rfl | (simp only [List.length_drop, List.length_take]; rfl)) ?_; (with_reducible refine (toponymlaw03_awake.calls k  t61 _  At62.out).mono ?_); rintro e w63 ⟨rfl, hb⟩; refine ⟨_, rfl, ?_⟩); refine stop_ ?_)
                refine Stop.go ?_
                replace HF17 := Aside0.mk (Kd.F_below (by (with_reducible repeat (first | apply Kd.F_alloc | apply Kd.F_drewN | apply Kd.F_drew)); exact HF17.out) hb)
                replace HF28 := Aside0.mk (Kd.F_below (by (with_reducible repeat (first | apply Kd.F_alloc | apply Kd.F_drewN | apply Kd.F_drew)); exact HF28.out) hb)
                replace HB := Aside0.mk (below_step (by repeat (first | (with_reducible first | exact HB.out | apply below_alloc | apply pw_below_drewN | apply below_drew1) | exact HB.out)) hb)
                clear hb
                have H := HH.out
                obtain rfl := Option.some.inj H
                clear HH
                go_wp2
                go_ret
                exact ⟨by first | rfl | (simp; done) | (simp [*]; done), HB.out⟩
              · have H := HH.out
                rw [if_neg c58] at H
                replace HH := Aside0.mk H
                clear H
                have hk64 : (t1 == 0) = false := beq_eq_false_iff_ne.mpr c58
                have hk65 : (t1 != 0) = true := bne_iff_ne.mpr c58
                clear c58
                have H := HH.out
                obtain rfl := Option.some.inj H
                clear HH
                go_wp2
                go_ret
                exact ⟨by first | rfl | (simp; done) | (simp [*]; done), (by repeat (first | (with_reducible first | exact HB.out | apply below_alloc | apply pw_below_drewN | apply below_drew1) | exact HB.out))⟩
          · have H := HH.out
            rw [if_neg c37] at H
            replace HH := Aside0.mk H
            clear H
            have hk66 : ((t34 != 0) == (t1 == 3)) = false := by simpa using c37
            try have hk67 : decide ((t34 != 0) = (t1 == 3)) = false := by simpa using c37
            try have hk68 : ((t34 != 0) == (t1 == 3)) = false := by simpa using c37
            try have hk69 : ¬ ((t34 != 0) = (t1 == 3)) := by simpa using c37
            clear c37
            have H := HH.out
            obtain rfl := Option.some.inj H
            clear HH
            go_wp2
            go_ret
            exact ⟨by first | rfl | (simp; done) | (simp [*]; done), (by repeat (first | (with_reducible first | exact HB.out | apply below_alloc | apply pw_below_drewN | apply below_drew1) | exact HB.out))⟩
      · have H := HH.out
        rw [if_neg c22] at H
        replace HH := Aside0.mk H
        clear H
        replace c22 := Bool.eq_false_iff.mpr c22
        subst c22
        have H := HH.out
        obtain rfl := Option.some.inj H
        clear HH
        go_wp2
        go_ret
        exact ⟨by first | rfl | (simp; done) | (simp [*]; done), (by repeat (first | (with_reducible first | exact HB.out | apply below_alloc | apply pw_below_drewN | apply below_drew1) | exact HB.out))⟩

end Go.Proofs.Ytkbiiijmgbjnkaa.GA
