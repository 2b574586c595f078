-- written by wip/gen.py, a program of this session
import Derived.Test.YtkbiiijmgbjnkaaGA0
import Derived.Test.YtkbiiijmgbjnkaaGAF10
import Derived.Test.YtkbiiijmgbjnkaaGAF12
import Derived.Test.YtkbiiijmgbjnkaaGAF8
namespace Go.Proofs.Ytkbiiijmgbjnkaa.GA
open Go.RowKit Go.Proofs.Ytkbiiijmgbjnkaa Go.Proofs.Ytkbiiijmgbjnkaa.MW Go.Proofs.YtkbiiijmgbjnkaaW.PrintWords Go.Proofs.YtkbiiijmgbjnkaaW.PrintLast Go.Proofs.YtkbiiijmgbjnkaaW.PrintMore
attribute [local go_sem] max2_int min2_int max_two min_two
set_option linter.unusedVariables false
set_option linter.unusedSimpArgs false

/-! ### toponymlaw03_awake: function 14 -/
def toponymlaw03_awake.f (k : Nat)  : Option (Bool) := (chars_Kind.f 65).bind fun t1 => (if t1 = 1 then ((chars_Kind.f 769).bind fun t7 => (if t7 = 3 then ((chars_Class.f 769).bind fun t13 => (if t13 = 230 then ((chars_Kind.f 8203).bind fun t19 => (if t19 = 6 then ((chars_Kind.f 57344).bind fun t25 => (if t25 = 7 then ((chars_Kind.f 880).bind fun t31 => (if t31 = 0 then ((chars_Is.f k 32 ([6, 5] : List Int)).bind fun t44 => (if t44 = true then ((chars_Is.f k 32 ([] : List Int)).bind fun t48 => (some (!t48))) else (some false))) else (some false))) else (some false))) else (some false))) else (some false))) else (some false))) else (some false))
theorem toponymlaw03_awake.mono : ∀ k, LeO (toponymlaw03_awake.f k ) (toponymlaw03_awake.f (k + 1) ) := by
  intro  k
  unfold toponymlaw03_awake.f
  repeat' first
      | (with_reducible exact chars_Is.mono _ _ _)
      | (with_reducible exact LeO.refl _)
      | (with_reducible exact LeO.none _)
      | (with_reducible refine LeO.ite ?_ ?_)
      | (with_reducible refine LeO.bind ?_ (fun _ => ?_))
      | exact chars_Is.mono _ _ _
      | exact LeO.none _
      | refine LeO.ite ?_ ?_
      | refine LeO.bind ?_ (fun _ => ?_)
set_option maxHeartbeats 8000000 in
set_option maxRecDepth 100000 in
theorem toponymlaw03_awake.calls (k : Nat) (r : Bool) (w : World) (h : toponymlaw03_awake.f k  = some r) :
    Calls Try.prog 14 #[] w (fun e w' => e = .returned (.bool r) ∧ Below w.heap.size w w') := by
  have HH := Aside0.mk (show ((chars_Kind.f 65).bind fun t1 => (if t1 = 1 then ((chars_Kind.f 769).bind fun t7 => (if t7 = 3 then ((chars_Class.f 769).bind fun t13 => (if t13 = 230 then ((chars_Kind.f 8203).bind fun t19 => (if t19 = 6 then ((chars_Kind.f 57344).bind fun t25 => (if t25 = 7 then ((chars_Kind.f 880).bind fun t31 => (if t31 = 0 then ((chars_Is.f k 32 ([6, 5] : List Int)).bind fun t44 => (if t44 = true then ((chars_Is.f k 32 ([] : List Int)).bind fun t48 => (some (!t48))) else (some false))) else (some false))) else (some false))) else (some false))) else (some false))) else (some false))) else (some false))) = some r from h)
  clear h
  have HB := Aside0.mk (Below.refl w.heap.size w)
  go_enter Try.func14, Try.ntmps14
  have H := HH.out
  replace H := Option.bind_eq_some_iff.mp H
  obtain ⟨t1, at_, H⟩ := H
  have At2 := Aside0.mk at_
  clear at_
  replace HH := Aside0.mk (show (if t1 = 1 then ((chars_Kind.f 769).bind fun t7 => (if t7 = 3 then ((chars_Class.f 769).bind fun t13 => (if t13 = 230 then ((chars_Kind.f 8203).bind fun t19 => (if t19 = 6 then ((chars_Kind.f 57344).bind fun t25 => (if t25 = 7 then ((chars_Kind.f 880).bind fun t31 => (if t31 = 0 then ((chars_Is.f k 32 ([6, 5] : List Int)).bind fun t44 => (if t44 = true then ((chars_Is.f k 32 ([] : List Int)).bind fun t48 => (some (!t48))) else (some false))) else (some false))) else (some false))) else (some false))) else (some false))) else (some false))) else (some false)) = some r from H)
  clear H
  go_wp2_with (((with_reducible refine gate_callee (f := 8) rfl ?_); (try (refine gate_guard (by rfl) ?_; dsimp only)); refine goesL_ (some 1) rfl rfl Try.func8 (by kernel_rfl) rfl #[.int .i32 65] rfl (by (try simp only [List.map_toArray, List.map_cons, List.map_nil]); first | done | rfl | (simp only [List.length_drop, List.length_take]; rfl)) ?_; (with_reducible refine (chars_Kind.calls  65 t1 _  At2.out).mono ?_); rintro e w' ⟨rfl, ⟨nd, rfl⟩⟩; refine ⟨_, rfl, ?_⟩); refine stop_ ?_)
  refine Stop.go ?_
  by_cases c4 : t1 = 1
  · have H := HH.out
    rw [if_pos c4] at H
    replace HH := Aside0.mk H
    clear H
    have hk5 : (t1 == 1) = true := beq_iff_eq.mpr c4
    have hk6 : (t1 != 1) = false := bne_eq_false_iff_eq.mpr c4
    clear c4
    have H := HH.out
    replace H := Option.bind_eq_some_iff.mp H
    obtain ⟨t7, at_, H⟩ := H
    have At8 := Aside0.mk at_
    clear at_
    replace HH := Aside0.mk (show (if t7 = 3 then ((chars_Class.f 769).bind fun t13 => (if t13 = 230 then ((chars_Kind.f 8203).bind fun t19 => (if t19 = 6 then ((chars_Kind.f 57344).bind fun t25 => (if t25 = 7 then ((chars_Kind.f 880).bind fun t31 => (if t31 = 0 then ((chars_Is.f k 32 ([6, 5] : List Int)).bind fun t44 => (if t44 = true then ((chars_Is.f k 32 ([] : List Int)).bind fun t48 => (some (!t48))) else (some false))) else (some false))) else (some false))) else (some false))) else (some false))) else (some false)) = some r from H)
    clear H
    go_wp2_with (((with_reducible refine gate_callee (f := 8) rfl ?_); (try (refine gate_guard (by rfl) ?_; dsimp only)); refine goesL_ (some 4) rfl rfl Try.func8 (by kernel_rfl) rfl #[.int .i32 769] rfl (by (try simp only [List.map_toArray, List.map_cons, List.map_nil]); first | done | rfl | (simp only [List.length_drop, List.length_take]; rfl)) ?_; (with_reducible refine (chars_Kind.calls  769 t7 _  At8.out).mono ?_); rintro e w' ⟨rfl, ⟨nd, rfl⟩⟩; refine ⟨_, rfl, ?_⟩); refine stop_ ?_)
    refine Stop.go ?_
    by_cases c10 : t7 = 3
    · have H := HH.out
      rw [if_pos c10] at H
      replace HH := Aside0.mk H
      clear H
      have hk11 : (t7 == 3) = true := beq_iff_eq.mpr c10
      have hk12 : (t7 != 3) = false := bne_eq_false_iff_eq.mpr c10
      clear c10
      have H := HH.out
      replace H := Option.bind_eq_some_iff.mp H
      obtain ⟨t13, at_, H⟩ := H
      have At14 := Aside0.mk at_
      clear at_
      replace HH := Aside0.mk (show (if t13 = 230 then ((chars_Kind.f 8203).bind fun t19 => (if t19 = 6 then ((chars_Kind.f 57344).bind fun t25 => (if t25 = 7 then ((chars_Kind.f 880).bind fun t31 => (if t31 = 0 then ((chars_Is.f k 32 ([6, 5] : List Int)).bind fun t44 => (if t44 = true then ((chars_Is.f k 32 ([] : List Int)).bind fun t48 => (some (!t48))) else (some false))) else (some false))) else (some false))) else (some false))) else (some false)) = some r from H)
      clear H
      go_wp2_with (((with_reducible refine gate_callee (f := 12) rfl ?_); (try (refine gate_guard (by rfl) ?_; dsimp only)); refine goesL_ (some 8) rfl rfl Try.func12 (by kernel_rfl) rfl #[.int .i32 769] rfl (by (try simp only [List.map_toArray, List.map_cons, List.map_nil]); first | done | rfl | (simp only [List.length_drop, List.length_take]; rfl)) ?_; (with_reducible refine (chars_Class.calls  769 t13 _  At14.out).mono ?_); rintro e w' ⟨rfl, ⟨nd, rfl⟩⟩; refine ⟨_, rfl, ?_⟩); refine stop_ ?_)
      refine Stop.go ?_
      by_cases c16 : t13 = 230
      · have H := HH.out
        rw [if_pos c16] at H
        replace HH := Aside0.mk H
        clear H
        have hk17 : (t13 == 230) = true := beq_iff_eq.mpr c16
        have hk18 : (t13 != 230) = false := bne_eq_false_iff_eq.mpr c16
        clear c16
        have H := HH.out
        replace H := Option.bind_eq_some_iff.mp H
        obtain ⟨t19, at_, H⟩ := H
        have At20 := Aside0.mk at_
        clear at_
        replace HH := Aside0.mk (show (if t19 = 6 then ((chars_Kind.f 57344).bind fun t25 => (if t25 = 7 then ((chars_Kind.f 880).bind fun t31 => (if t31 = 0 then ((chars_Is.f k 32 ([6, 5] : List Int)).bind fun t44 => (if t44 = true then ((chars_Is.f k 32 ([] : List Int)).bind fun t48 => (some (!t48))) else (some false))) else (some false))) else (some false))) else (some false)) = some r from H)
        clear H
        go_wp2_with (((with_reducible refine gate_callee (f := 8) rfl ?_); (try (refine gate_guard (by rfl) ?_; dsimp only)); refine goesL_ (some 12) rfl rfl Try.func8 (by kernel_rfl) rfl #[.int .i32 8203] rfl (by (try simp only [List.map_toArray, List.map_cons, List.map_nil]); first | done | rfl | (simp only [List.length_drop, List.length_take]; rfl)) ?_; (with_reducible refine (chars_Kind.calls  8203 t19 _  At20.out).mono ?_); rintro e w' ⟨rfl, ⟨nd, rfl⟩⟩; refine ⟨_, rfl, ?_⟩); refine stop_ ?_)
        refine Stop.go ?_
        by_cases c22 : t19 = 6
        · have H := HH.out
          rw [if_pos c22] at H
          replace HH := Aside0.mk H
          clear H
          have hk23 : (t19 == 6) = true := beq_iff_eq.mpr c22
          have hk24 : (t19 != 6) = false := bne_eq_false_iff_eq.mpr c22
          clear c22
          have H := HH.out
          replace H := Option.bind_eq_some_iff.mp H
          obtain ⟨t25, at_, H⟩ := H
          have At26 := Aside0.mk at_
          clear at_
          replace HH := Aside0.mk (show (if t25 = 7 then ((chars_Kind.f 880).bind fun t31 => (if t31 = 0 then ((chars_Is.f k 32 ([6, 5] : List Int)).bind fun t44 => (if t44 = true then ((chars_Is.f k 32 ([] : List Int)).bind fun t48 => (some (!t48))) else (some false))) else (some false))) else (some false)) = some r from H)
          clear H
          go_wp2_with (((with_reducible refine gate_callee (f := 8) rfl ?_); (try (refine gate_guard (by rfl) ?_; dsimp only)); refine goesL_ (some 16) rfl rfl Try.func8 (by kernel_rfl) rfl #[.int .i32 57344] rfl (by (try simp only [List.map_toArray, List.map_cons, List.map_nil]); first | done | rfl | (simp only [List.length_drop, List.length_take]; rfl)) ?_; (with_reducible refine (chars_Kind.calls  57344 t25 _  At26.out).mono ?_); rintro e w' ⟨rfl, ⟨nd, rfl⟩⟩; refine ⟨_, rfl, ?_⟩); refine stop_ ?_)
          refine Stop.go ?_
          by_cases c28 : t25 = 7
          · have H := HH.out
            rw [if_pos c28] at H
            replace HH := Aside0.mk H
            clear H
            have hk29 : (t25 == 7) = true := beq_iff_eq.mpr c28
            have hk30 : (t25 != 7) = false := bne_eq_false_iff_eq.mpr c28
            clear c28
            have H := HH.out
            replace H := Option.bind_eq_some_iff.mp H
            obtain ⟨t31, at_, H⟩ := H
            have At32 := Aside0.mk at_
            clear at_
            replace HH := Aside0.mk (show (if t31 = 0 then ((chars_Is.f k 32 ([6, 5] : List Int)).bind fun t44 => (if t44 = true then ((chars_Is.f k 32 ([] : List Int)).bind fun t48 => (some (!t48))) else (some false))) else (some false)) = some r from H)
            clear H
            go_wp2_with (((with_reducible refine gate_callee (f := 8) rfl ?_); (try (refine gate_guard (by rfl) ?_; dsimp only)); refine goesL_ (some 20) rfl rfl Try.func8 (by kernel_rfl) rfl #[.int .i32 880] rfl (by (try simp only [List.map_toArray, List.map_cons, List.map_nil]); first | done | rfl | (simp only [List.length_drop, List.length_take]; rfl)) ?_; (with_reducible refine (chars_Kind.calls  880 t31 _  At32.out).mono ?_); rintro e w' ⟨rfl, ⟨nd, rfl⟩⟩; refine ⟨_, rfl, ?_⟩); refine stop_ ?_)
            refine Stop.go ?_
            by_cases c34 : t31 = 0
            · have H := HH.out
              rw [if_pos c34] at H
              replace HH := Aside0.mk H
              clear H
              have hk35 : (t31 == 0) = true := beq_iff_eq.mpr c34
              have hk36 : (t31 != 0) = false := bne_eq_false_iff_eq.mpr c34
              clear c34
              go_wp2_with (((with_reducible refine gate_dst (N := 24) rfl ?_); (try (refine gate_guard (by rfl) ?_; dsimp only)); refine Kd.N_lit (Kd.int .i64) w.heap.size 3 rfl (N' := 24) rfl (xs := ([6, 5] : List Int)) (inner := [.int .i64 6, .int .i64 5]) (ok := (fun k_ => (w.heap.size ≤ k_))) (okp := (fun k_ => (w.heap.size ≤ k_))) ?hr ?hp (fun _ hk_ => hk_) ?hf (by repeat (first | (with_reducible first | exact HB.out | apply below_alloc | apply pw_below_drewN | apply below_drew1) | exact HB.out)) (below_size (by repeat (first | (with_reducible first | exact HB.out | apply below_alloc | apply pw_below_drewN | apply below_drew1) | exact HB.out))) (by first | simp | decide) ?_; (case hr => first | (go_simp; done) | (go_simp; rfl)); (case hp => exact (Reps.one (fun _ _ => rfl) (Reps.one (fun _ _ => rfl) (Reps.none _ _)))); (case hf => exact (show ∀ k_, w.heap.size ≤ k_ → (fun k_ => (w.heap.size ≤ k_)) k_ from fun k_ h_ => (Nat.le_trans (below_size (by repeat (first | (with_reducible first | exact HB.out | apply below_alloc | apply pw_below_drewN | apply below_drew1) | exact HB.out))) h_)) _ (Nat.le_refl _)); intro v37 w38 hn1 hb1 hg1 hat1); replace hat1 := Aside0.mk hat1; refine stop_ ?_)
              refine Stop.go ?_
              replace hat1 := hat1.out
              have hbe := MW.grown_below hg1
              have hba := MW.base_of hat1
              replace HB := Aside0.mk hb1
              have HN39 := Aside0.mk hn1
              clear hn1 hb1 hg1 hat1 hbe hba
              obtain ⟨A40, cp41, he_⟩ := Kd.N_slice HN39.out
              subst he_
              have HL43 := Aside0.mk (Kd.N_reads' HN39.out).2.1
              have HF42 := Aside0.mk (Kd.N_F HN39.out)
              clear HN39
              have H := HH.out
              replace H := Option.bind_eq_some_iff.mp H
              obtain ⟨t44, at_, H⟩ := H
              have At45 := Aside0.mk at_
              clear at_
              replace HH := Aside0.mk (show (if t44 = true then ((chars_Is.f k 32 ([] : List Int)).bind fun t48 => (some (!t48))) else (some false)) = some r from H)
              clear H
              go_wp2_with (((with_reducible refine gate_callee (f := 10) rfl ?_); (try (refine gate_guard (by rfl) ?_; dsimp only)); refine goesL_ (some 25) rfl rfl Try.func10 (by kernel_rfl) rfl #[.int .i32 32, .slice A40 ([6, 5] : List Int).length cp41] rfl (by (try simp only [List.map_toArray, List.map_cons, List.map_nil]); first | done | rfl | (simp only [List.length_drop, List.length_take]; rfl)) ?_; (with_reducible refine (chars_Is.calls k (fun k_ => (w.heap.size ≤ k_)) 32 _ _ ([6, 5] : List Int) t44 _ (Kd.F_mono (ok := (fun k_ => (w.heap.size ≤ k_))) HF42.out (fun k_ hk_ => hk_)) HL43.out At45.out).mono ?_); rintro e w' ⟨rfl, ⟨nd, rfl⟩⟩; refine ⟨_, rfl, ?_⟩); refine stop_ ?_)
              refine Stop.go ?_
              by_cases c47 : t44 = true
              · have H := HH.out
                rw [if_pos c47] at H
                replace HH := Aside0.mk H
                clear H
                subst c47
                have H := HH.out
                replace H := Option.bind_eq_some_iff.mp H
                obtain ⟨t48, at_, H⟩ := H
                have At49 := Aside0.mk at_
                clear at_
                replace HH := Aside0.mk (show (some (!t48)) = some r from H)
                clear H
                go_wp2_with (((with_reducible refine gate_callee (f := 10) rfl ?_); (try (refine gate_guard (by rfl) ?_; dsimp only)); refine goesL_ (some 28) rfl rfl Try.func10 (by kernel_rfl) rfl #[.int .i32 32, .slice none 0 0] rfl (by (try simp only [List.map_toArray, List.map_cons, List.map_nil]); first | done | rfl | (simp only [List.length_drop, List.length_take]; rfl)) ?_; (refine (chars_Is.calls k (fun k_ => (w.heap.size ≤ k_)) 32 _ _ ([] : List Int) t48 _ (Kd.F_nil _ _ _) (Nat.le_refl _) At49.out).mono ?_); rintro e w' ⟨rfl, ⟨nd, rfl⟩⟩; refine ⟨_, rfl, ?_⟩); refine stop_ ?_)
                refine Stop.go ?_
                have H := HH.out
                obtain rfl := Option.some.inj H
                clear HH
                go_wp2
                go_ret
                exact ⟨by first | rfl | (simp; done) | (simp [*]; done), (by repeat (first | (with_reducible first | exact HB.out | apply below_alloc | apply pw_below_drewN | apply below_drew1) | exact HB.out))⟩
              · have H := HH.out
                rw [if_neg c47] at H
                replace HH := Aside0.mk H
                clear H
                replace c47 := Bool.eq_false_iff.mpr c47
                subst c47
                have H := HH.out
                obtain rfl := Option.some.inj H
                clear HH
                go_wp2
                go_ret
                exact ⟨by first | rfl | (simp; done) | (simp [*]; done), (by repeat (first | (with_reducible first | exact HB.out | apply below_alloc | apply pw_below_drewN | apply below_drew1) | exact HB.out))⟩
            · have H := HH.out
              rw [if_neg c34] at H
              replace HH := Aside0.mk H
              clear H
              have hk51 : (t31 == 0) = false := beq_eq_false_iff_ne.mpr c34
              have hk52 : (t31 != 0) = true := bne_iff_ne.mpr c34
              clear c34
              have H := HH.out
              obtain rfl := Option.some.inj H
              clear HH
              go_wp2
              go_ret
              exact ⟨by first | rfl | (simp; done) | (simp [*]; done), (by repeat (first | (with_reducible first | exact HB.out | apply below_alloc | apply pw_below_drewN | apply below_drew1) | exact HB.out))⟩
          · have H := HH.out
            rw [if_neg c28] at H
            replace HH := Aside0.mk H
            clear H
            have hk53 : (t25 == 7) = false := beq_eq_false_iff_ne.mpr c28
            have hk54 : (t25 != 7) = true := bne_iff_ne.mpr c28
            clear c28
            have H := HH.out
            obtain rfl := Option.some.inj H
            clear HH
            go_wp2
            go_ret
            exact ⟨by first | rfl | (simp; done) | (simp [*]; done), (by repeat (first | (with_reducible first | exact HB.out | apply below_alloc | apply pw_below_drewN | apply below_drew1) | exact HB.out))⟩
        · have H := HH.out
          rw [if_neg c22] at H
          replace HH := Aside0.mk H
          clear H
          have hk55 : (t19 == 6) = false := beq_eq_false_iff_ne.mpr c22
          have hk56 : (t19 != 6) = true := bne_iff_ne.mpr c22
          clear c22
          have H := HH.out
          obtain rfl := Option.some.inj H
          clear HH
          go_wp2
          go_ret
          exact ⟨by first | rfl | (simp; done) | (simp [*]; done), (by repeat (first | (with_reducible first | exact HB.out | apply below_alloc | apply pw_below_drewN | apply below_drew1) | exact HB.out))⟩
      · have H := HH.out
        rw [if_neg c16] at H
        replace HH := Aside0.mk H
        clear H
        have hk57 : (t13 == 230) = false := beq_eq_false_iff_ne.mpr c16
        have hk58 : (t13 != 230) = true := bne_iff_ne.mpr c16
        clear c16
        have H := HH.out
        obtain rfl := Option.some.inj H
        clear HH
        go_wp2
        go_ret
        exact ⟨by first | rfl | (simp; done) | (simp [*]; done), (by repeat (first | (with_reducible first | exact HB.out | apply below_alloc | apply pw_below_drewN | apply below_drew1) | exact HB.out))⟩
    · have H := HH.out
      rw [if_neg c10] at H
      replace HH := Aside0.mk H
      clear H
      have hk59 : (t7 == 3) = false := beq_eq_false_iff_ne.mpr c10
      have hk60 : (t7 != 3) = true := bne_iff_ne.mpr c10
      clear c10
      have H := HH.out
      obtain rfl := Option.some.inj H
      clear HH
      go_wp2
      go_ret
      exact ⟨by first | rfl | (simp; done) | (simp [*]; done), (by repeat (first | (with_reducible first | exact HB.out | apply below_alloc | apply pw_below_drewN | apply below_drew1) | exact HB.out))⟩
  · have H := HH.out
    rw [if_neg c4] at H
    replace HH := Aside0.mk H
    clear H
    have hk61 : (t1 == 1) = false := beq_eq_false_iff_ne.mpr c4
    have hk62 : (t1 != 1) = true := bne_iff_ne.mpr c4
    clear c4
    have H := HH.out
    obtain rfl := Option.some.inj H
    clear HH
    go_wp2
    go_ret
    exact ⟨by first | rfl | (simp; done) | (simp [*]; done), (by repeat (first | (with_reducible first | exact HB.out | apply below_alloc | apply pw_below_drewN | apply below_drew1) | exact HB.out))⟩

end Go.Proofs.Ytkbiiijmgbjnkaa.GA
