-- written by wip/gen.py, a program of this session
import Derived.Test.YtkbiiijmgbjnkaaGA0
import Derived.Test.YtkbiiijmgbjnkaaGAF23
import Derived.Test.YtkbiiijmgbjnkaaGAF24
import Derived.Test.YtkbiiijmgbjnkaaGAF25
import Derived.Test.YtkbiiijmgbjnkaaGAF26
import Derived.Test.YtkbiiijmgbjnkaaGAF27
import Derived.Test.YtkbiiijmgbjnkaaGAF28
import Derived.Test.YtkbiiijmgbjnkaaGAF29
namespace Go.Proofs.Ytkbiiijmgbjnkaa.GA
open Go.RowKit Go.Proofs.Ytkbiiijmgbjnkaa Go.Proofs.Ytkbiiijmgbjnkaa.MW Go.Proofs.YtkbiiijmgbjnkaaW.PrintWords Go.Proofs.YtkbiiijmgbjnkaaW.PrintLast Go.Proofs.YtkbiiijmgbjnkaaW.PrintMore
attribute [local go_sem] max2_int min2_int max_two min_two
set_option linter.unusedVariables false
set_option linter.unusedSimpArgs false

/-! ### chars_Kind: function 8 -/
def chars_Kind.f (a0 : Int) : Option (Int) := (chars_letter.f a0).bind fun t1 => (if t1 = true then (some 1) else ((chars_digit.f a0).bind fun t5 => (if t5 = true then (some 2) else ((chars_mark.f a0).bind fun t9 => (if t9 = true then (some 3) else ((chars_sign.f a0).bind fun t13 => (if t13 = true then (some 4) else ((chars_space.f a0).bind fun t17 => (if t17 = true then (some 5) else ((chars_gone.f a0).bind fun t21 => (if t21 = true then (some 6) else ((chars_bad.f a0).bind fun t25 => (if t25 = true then (some 7) else (some 0))))))))))))))
set_option maxHeartbeats 8000000 in
set_option maxRecDepth 100000 in
theorem chars_Kind.calls (a0 : Int) (r : Int) (w : World) (h : chars_Kind.f a0 = some r) :
    Calls Try.prog 8 #[.int .i32 a0] w (fun e w' => e = .returned (.int .i64 r) ∧ Drawn0 w w') := by
  have HH := Aside0.mk (show ((chars_letter.f a0).bind fun t1 => (if t1 = true then (some 1) else ((chars_digit.f a0).bind fun t5 => (if t5 = true then (some 2) else ((chars_mark.f a0).bind fun t9 => (if t9 = true then (some 3) else ((chars_sign.f a0).bind fun t13 => (if t13 = true then (some 4) else ((chars_space.f a0).bind fun t17 => (if t17 = true then (some 5) else ((chars_gone.f a0).bind fun t21 => (if t21 = true then (some 6) else ((chars_bad.f a0).bind fun t25 => (if t25 = true then (some 7) else (some 0))))))))))))))) = some r from h)
  clear h
  go_enter Try.func8, Try.ntmps8
  have H := HH.out
  replace H := Option.bind_eq_some_iff.mp H
  obtain ⟨t1, at_, H⟩ := H
  have At2 := Aside0.mk at_
  clear at_
  replace HH := Aside0.mk (show (if t1 = true then (some 1) else ((chars_digit.f a0).bind fun t5 => (if t5 = true then (some 2) else ((chars_mark.f a0).bind fun t9 => (if t9 = true then (some 3) else ((chars_sign.f a0).bind fun t13 => (if t13 = true then (some 4) else ((chars_space.f a0).bind fun t17 => (if t17 = true then (some 5) else ((chars_gone.f a0).bind fun t21 => (if t21 = true then (some 6) else ((chars_bad.f a0).bind fun t25 => (if t25 = true then (some 7) else (some 0)))))))))))))) = some r from H)
  clear H
  go_wp2_with (((with_reducible refine gate_callee (f := 23) rfl ?_); (try (refine gate_guard (by rfl) ?_; dsimp only)); refine goesL_ (some 5) rfl rfl Try.func23 (by kernel_rfl) rfl #[.int .i32 a0] rfl (by (try simp only [List.map_toArray, List.map_cons, List.map_nil]); first | done | rfl | (simp only [List.length_drop, List.length_take]; rfl)) ?_; (with_reducible refine (chars_letter.calls  a0 t1 _  At2.out).mono ?_); rintro e w' ⟨rfl, ⟨nd, rfl⟩⟩; refine ⟨_, rfl, ?_⟩); refine stop_ ?_)
  refine Stop.go ?_
  by_cases c4 : t1 = true
  · have H := HH.out
    rw [if_pos c4] at H
    replace HH := Aside0.mk H
    clear H
    subst c4
    have H := HH.out
    obtain rfl := Option.some.inj H
    clear HH
    go_wp2
    go_ret
    exact ⟨by first | rfl | (simp; done) | (simp [*]; done), by repeat (first | exact Drawn0.refl _ | apply Drawn0.step)⟩
  · have H := HH.out
    rw [if_neg c4] at H
    replace HH := Aside0.mk H
    clear H
    replace c4 := Bool.eq_false_iff.mpr c4
    subst c4
    have H := HH.out
    replace H := Option.bind_eq_some_iff.mp H
    obtain ⟨t5, at_, H⟩ := H
    have At6 := Aside0.mk at_
    clear at_
    replace HH := Aside0.mk (show (if t5 = true then (some 2) else ((chars_mark.f a0).bind fun t9 => (if t9 = true then (some 3) else ((chars_sign.f a0).bind fun t13 => (if t13 = true then (some 4) else ((chars_space.f a0).bind fun t17 => (if t17 = true then (some 5) else ((chars_gone.f a0).bind fun t21 => (if t21 = true then (some 6) else ((chars_bad.f a0).bind fun t25 => (if t25 = true then (some 7) else (some 0)))))))))))) = some r from H)
    clear H
    go_wp2_with (((with_reducible refine gate_callee (f := 24) rfl ?_); (try (refine gate_guard (by rfl) ?_; dsimp only)); refine goesL_ (some 8) rfl rfl Try.func24 (by kernel_rfl) rfl #[.int .i32 a0] rfl (by (try simp only [List.map_toArray, List.map_cons, List.map_nil]); first | done | rfl | (simp only [List.length_drop, List.length_take]; rfl)) ?_; (with_reducible refine (chars_digit.calls  a0 t5 _  At6.out).mono ?_); rintro e w' ⟨rfl, ⟨nd, rfl⟩⟩; refine ⟨_, rfl, ?_⟩); refine stop_ ?_)
    refine Stop.go ?_
    by_cases c8 : t5 = true
    · have H := HH.out
      rw [if_pos c8] at H
      replace HH := Aside0.mk H
      clear H
      subst c8
      have H := HH.out
      obtain rfl := Option.some.inj H
      clear HH
      go_wp2
      go_ret
      exact ⟨by first | rfl | (simp; done) | (simp [*]; done), by repeat (first | exact Drawn0.refl _ | apply Drawn0.step)⟩
    · have H := HH.out
      rw [if_neg c8] at H
      replace HH := Aside0.mk H
      clear H
      replace c8 := Bool.eq_false_iff.mpr c8
      subst c8
      have H := HH.out
      replace H := Option.bind_eq_some_iff.mp H
      obtain ⟨t9, at_, H⟩ := H
      have At10 := Aside0.mk at_
      clear at_
      replace HH := Aside0.mk (show (if t9 = true then (some 3) else ((chars_sign.f a0).bind fun t13 => (if t13 = true then (some 4) else ((chars_space.f a0).bind fun t17 => (if t17 = true then (some 5) else ((chars_gone.f a0).bind fun t21 => (if t21 = true then (some 6) else ((chars_bad.f a0).bind fun t25 => (if t25 = true then (some 7) else (some 0)))))))))) = some r from H)
      clear H
      go_wp2_with (((with_reducible refine gate_callee (f := 25) rfl ?_); (try (refine gate_guard (by rfl) ?_; dsimp only)); refine goesL_ (some 11) rfl rfl Try.func25 (by kernel_rfl) rfl #[.int .i32 a0] rfl (by (try simp only [List.map_toArray, List.map_cons, List.map_nil]); first | done | rfl | (simp only [List.length_drop, List.length_take]; rfl)) ?_; (with_reducible refine (chars_mark.calls  a0 t9 _  At10.out).mono ?_); rintro e w' ⟨rfl, ⟨nd, rfl⟩⟩; refine ⟨_, rfl, ?_⟩); refine stop_ ?_)
      refine Stop.go ?_
      by_cases c12 : t9 = true
      · have H := HH.out
        rw [if_pos c12] at H
        replace HH := Aside0.mk H
        clear H
        subst c12
        have H := HH.out
        obtain rfl := Option.some.inj H
        clear HH
        go_wp2
        go_ret
        exact ⟨by first | rfl | (simp; done) | (simp [*]; done), by repeat (first | exact Drawn0.refl _ | apply Drawn0.step)⟩
      · have H := HH.out
        rw [if_neg c12] at H
        replace HH := Aside0.mk H
        clear H
        replace c12 := Bool.eq_false_iff.mpr c12
        subst c12
        have H := HH.out
        replace H := Option.bind_eq_some_iff.mp H
        obtain ⟨t13, at_, H⟩ := H
        have At14 := Aside0.mk at_
        clear at_
        replace HH := Aside0.mk (show (if t13 = true then (some 4) else ((chars_space.f a0).bind fun t17 => (if t17 = true then (some 5) else ((chars_gone.f a0).bind fun t21 => (if t21 = true then (some 6) else ((chars_bad.f a0).bind fun t25 => (if t25 = true then (some 7) else (some 0)))))))) = some r from H)
        clear H
        go_wp2_with (((with_reducible refine gate_callee (f := 26) rfl ?_); (try (refine gate_guard (by rfl) ?_; dsimp only)); refine goesL_ (some 14) rfl rfl Try.func26 (by kernel_rfl) rfl #[.int .i32 a0] rfl (by (try simp only [List.map_toArray, List.map_cons, List.map_nil]); first | done | rfl | (simp only [List.length_drop, List.length_take]; rfl)) ?_; (with_reducible refine (chars_sign.calls  a0 t13 _  At14.out).mono ?_); rintro e w' ⟨rfl, ⟨nd, rfl⟩⟩; refine ⟨_, rfl, ?_⟩); refine stop_ ?_)
        refine Stop.go ?_
        by_cases c16 : t13 = true
        · have H := HH.out
          rw [if_pos c16] at H
          replace HH := Aside0.mk H
          clear H
          subst c16
          have H := HH.out
          obtain rfl := Option.some.inj H
          clear HH
          go_wp2
          go_ret
          exact ⟨by first | rfl | (simp; done) | (simp [*]; done), by repeat (first | exact Drawn0.refl _ | apply Drawn0.step)⟩
        · have H := HH.out
          rw [if_neg c16] at H
          replace HH := Aside0.mk H
          clear H
          replace c16 := Bool.eq_false_iff.mpr c16
          subst c16
          have H := HH.out
          replace H := Option.bind_eq_some_iff.mp H
          obtain ⟨t17, at_, H⟩ := H
          have At18 := Aside0.mk at_
          clear at_
          replace HH := Aside0.mk (show (if t17 = true then (some 5) else ((chars_gone.f a0).bind fun t21 => (if t21 = true then (some 6) else ((chars_bad.f a0).bind fun t25 => (if t25 = true then (some 7) else (some 0)))))) = some r from H)
          clear H
          go_wp2_with (((with_reducible refine gate_callee (f := 27) rfl ?_); (try (refine gate_guard (by rfl) ?_; dsimp only)); refine goesL_ (some 17) rfl rfl Try.func27 (by kernel_rfl) rfl #[.int .i32 a0] rfl (by (try simp only [List.map_toArray, List.map_cons, List.map_nil]); first | done | rfl | (simp only [List.length_drop, List.length_take]; rfl)) ?_; (with_reducible refine (chars_space.calls  a0 t17 _  At18.out).mono ?_); rintro e w' ⟨rfl, ⟨nd, rfl⟩⟩; refine ⟨_, rfl, ?_⟩); refine stop_ ?_)
          refine Stop.go ?_
          by_cases c20 : t17 = true
          · have H := HH.out
            rw [if_pos c20] at H
            replace HH := Aside0.mk H
            clear H
            subst c20
            have H := HH.out
            obtain rfl := Option.some.inj H
            clear HH
            go_wp2
            go_ret
            exact ⟨by first | rfl | (simp; done) | (simp [*]; done), by repeat (first | exact Drawn0.refl _ | apply Drawn0.step)⟩
          · have H := HH.out
            rw [if_neg c20] at H
            replace HH := Aside0.mk H
            clear H
            replace c20 := Bool.eq_false_iff.mpr c20
            subst c20
            have H := HH.out
            replace H := Option.bind_eq_some_iff.mp H
            obtain ⟨t21, at_, H⟩ := H
            have At22 := Aside0.mk at_
            clear at_
            replace HH := Aside0.mk (show (if t21 = true then (some 6) else ((chars_bad.f a0).bind fun t25 => (if t25 = true then (some 7) else (some 0)))) = some r from H)
            clear H
            go_wp2_with (((with_reducible refine gate_callee (f := 28) rfl ?_); (try (refine gate_guard (by rfl) ?_; dsimp only)); refine goesL_ (some 20) rfl rfl Try.func28 (by kernel_rfl) rfl #[.int .i32 a0] rfl (by (try simp only [List.map_toArray, List.map_cons, List.map_nil]); first | done | rfl | (simp only [List.length_drop, List.length_take]; rfl)) ?_; (with_reducible refine (chars_gone.calls  a0 t21 _  At22.out).mono ?_); rintro e w' ⟨rfl, ⟨nd, rfl⟩⟩; refine ⟨_, rfl, ?_⟩); refine stop_ ?_)
            refine Stop.go ?_
            by_cases c24 : t21 = true
            · have H := HH.out
              rw [if_pos c24] at H
              replace HH := Aside0.mk H
              clear H
              subst c24
              have H := HH.out
              obtain rfl := Option.some.inj H
              clear HH
              go_wp2
              go_ret
              exact ⟨by first | rfl | (simp; done) | (simp [*]; done), by repeat (first | exact Drawn0.refl _ | apply Drawn0.step)⟩
            · have H := HH.out
              rw [if_neg c24] at H
              replace HH := Aside0.mk H
              clear H
              replace c24 := Bool.eq_false_iff.mpr c24
              subst c24
              have H := HH.out
              replace H := Option.bind_eq_some_iff.mp H
              obtain ⟨t25, at_, H⟩ := H
              have At26 := Aside0.mk at_
              clear at_
              replace HH := Aside0.mk (show (if t25 = true then (some 7) else (some 0)) = some r from H)
              clear H
              go_wp2_with (((with_reducible refine gate_callee (f := 29) rfl ?_); (try (refine gate_guard (by rfl) ?_; dsimp only)); refine goesL_ (some 23) rfl rfl Try.func29 (by kernel_rfl) rfl #[.int .i32 a0] rfl (by (try simp only [List.map_toArray, List.map_cons, List.map_nil]); first | done | rfl | (simp only [List.length_drop, List.length_take]; rfl)) ?_; (with_reducible refine (chars_bad.calls  a0 t25 _  At26.out).mono ?_); rintro e w' ⟨rfl, ⟨nd, rfl⟩⟩; refine ⟨_, rfl, ?_⟩); refine stop_ ?_)
              refine Stop.go ?_
              by_cases c28 : t25 = true
              · have H := HH.out
                rw [if_pos c28] at H
                replace HH := Aside0.mk H
                clear H
                subst c28
                have H := HH.out
                obtain rfl := Option.some.inj H
                clear HH
                go_wp2
                go_ret
                exact ⟨by first | rfl | (simp; done) | (simp [*]; done), by repeat (first | exact Drawn0.refl _ | apply Drawn0.step)⟩
              · have H := HH.out
                rw [if_neg c28] at H
                replace HH := Aside0.mk H
                clear H
                replace c28 := Bool.eq_false_iff.mpr c28
                subst c28
                have H := HH.out
                obtain rfl := Option.some.inj H
                clear HH
                go_wp2
                go_ret
                exact ⟨by first | rfl | (simp; done) | (simp [*]; done), by repeat (first | exact Drawn0.refl _ | apply Drawn0.step)⟩

end Go.Proofs.Ytkbiiijmgbjnkaa.GA
