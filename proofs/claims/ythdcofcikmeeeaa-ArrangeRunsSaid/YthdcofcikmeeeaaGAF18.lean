-- written by wip/gen.py, a program of this session
import Derived.Test.YthdcofcikmeeeaaGA0
import Derived.Test.YthdcofcikmeeeaaGAF16
namespace Go.Proofs.Ythdcofcikmeeeaa.GA
open Go.RowKit Go.Proofs.Ythdcofcikmeeeaa Go.Proofs.Ythdcofcikmeeeaa.MW Go.Proofs.YthdcofcikmeeeaaW.PrintWords Go.Proofs.YthdcofcikmeeeaaW.PrintLast Go.Proofs.YthdcofcikmeeeaaW.PrintMore
attribute [local go_sem] max2_int min2_int max_two min_two
set_option linter.unusedVariables false
set_option linter.unusedSimpArgs false

/-! ### arrange_wrong: function 18 -/
def arrange_wrong.f (a0 : Int) (a1 : Int) : Option (Bool) := (chars_Class.f a1).bind fun t1 => (if t1 > 0 then ((chars_Class.f a0).bind fun t6 => (some (decide (t6 > t1)))) else (some false))
set_option maxHeartbeats 8000000 in
set_option maxRecDepth 100000 in
theorem arrange_wrong.calls (a0 : Int) (a1 : Int) (r : Bool) (w : World) (h : arrange_wrong.f a0 a1 = some r) :
    Calls Try.prog 18 #[.int .i32 a0, .int .i32 a1] w (fun e w' => e = .returned (.bool r) ∧ Drawn0 w w') := by
  have HH := Aside0.mk (show ((chars_Class.f a1).bind fun t1 => (if t1 > 0 then ((chars_Class.f a0).bind fun t6 => (some (decide (t6 > t1)))) else (some false))) = some r from h)
  clear h
  go_enter Try.func18, Try.ntmps18
  have H := HH.out
  replace H := Option.bind_eq_some_iff.mp H
  obtain ⟨t1, at_, H⟩ := H
  have At2 := Aside0.mk at_
  clear at_
  replace HH := Aside0.mk (show (if t1 > 0 then ((chars_Class.f a0).bind fun t6 => (some (decide (t6 > t1)))) else (some false)) = some r from H)
  clear H
  go_wp2_with (((with_reducible refine gate_callee (f := 16) rfl ?_); (try (refine gate_guard (by rfl) ?_; dsimp only)); refine goesL_ (some 7) rfl rfl Try.func16 (by kernel_rfl) rfl #[.int .i32 a1] rfl (by (try simp only [List.map_toArray, List.map_cons, List.map_nil]); first | done | rfl | (simp only [List.length_drop, List.length_take]; rfl)) ?_; (with_reducible refine (chars_Class.calls  a1 t1 _  At2.out).mono ?_); rintro e w' ⟨rfl, ⟨nd, rfl⟩⟩; refine ⟨_, rfl, ?_⟩); refine stop_ ?_)
  refine Stop.go ?_
  by_cases c4 : t1 > 0
  · have H := HH.out
    rw [if_pos c4] at H
    replace HH := Aside0.mk H
    clear H
    have hk5 : decide (0 < t1) = true := decide_eq_true c4
    clear c4
    have H := HH.out
    replace H := Option.bind_eq_some_iff.mp H
    obtain ⟨t6, at_, H⟩ := H
    have At7 := Aside0.mk at_
    clear at_
    replace HH := Aside0.mk (show (some (decide (t6 > t1))) = some r from H)
    clear H
    go_wp2_with (((with_reducible refine gate_callee (f := 16) rfl ?_); (try (refine gate_guard (by rfl) ?_; dsimp only)); refine goesL_ (some 12) rfl rfl Try.func16 (by kernel_rfl) rfl #[.int .i32 a0] rfl (by (try simp only [List.map_toArray, List.map_cons, List.map_nil]); first | done | rfl | (simp only [List.length_drop, List.length_take]; rfl)) ?_; (with_reducible refine (chars_Class.calls  a0 t6 _  At7.out).mono ?_); rintro e w' ⟨rfl, ⟨nd, rfl⟩⟩; refine ⟨_, rfl, ?_⟩); refine stop_ ?_)
    refine Stop.go ?_
    have H := HH.out
    obtain rfl := Option.some.inj H
    clear HH
    go_wp2
    go_ret
    exact ⟨by first | rfl | (simp; done) | (simp [*]; done), by repeat (first | exact Drawn0.refl _ | apply Drawn0.step)⟩
  · have H := HH.out
    rw [if_neg c4] at H
    replace HH := Aside0.mk H
    clear H
    have hk9 : decide (0 < t1) = false := decide_eq_false c4
    clear c4
    have H := HH.out
    obtain rfl := Option.some.inj H
    clear HH
    go_wp2
    go_ret
    exact ⟨by first | rfl | (simp; done) | (simp [*]; done), by repeat (first | exact Drawn0.refl _ | apply Drawn0.step)⟩

end Go.Proofs.Ythdcofcikmeeeaa.GA
