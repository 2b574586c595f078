-- written by wip/gen.py, a program of this session
import Derived.Test.YtkbiiijmgbjnkaaGA0
import Derived.Test.YtkbiiijmgbjnkaaGAF32
import Derived.Test.YtkbiiijmgbjnkaaGAF8
namespace Go.Proofs.Ytkbiiijmgbjnkaa.GA
open Go.RowKit Go.Proofs.Ytkbiiijmgbjnkaa Go.Proofs.Ytkbiiijmgbjnkaa.MW Go.Proofs.YtkbiiijmgbjnkaaW.PrintWords Go.Proofs.YtkbiiijmgbjnkaaW.PrintLast Go.Proofs.YtkbiiijmgbjnkaaW.PrintMore
attribute [local go_sem] max2_int min2_int max_two min_two
set_option linter.unusedVariables false
set_option linter.unusedSimpArgs false

/-! ### chars_Is: function 10 -/
def chars_Is.f (k : Nat) (a0 : Int) (l1 : List Int) : Option (Bool) := (chars_Kind.f a0).bind fun t1 => ((slices_Contains_int_int.f k l1 t1).bind fun t4 => (some t4))
theorem chars_Is.mono : ∀ a0_ a1_ k, LeO (chars_Is.f k a0_ a1_) (chars_Is.f (k + 1) a0_ a1_) := by
  intro a0_ a1_ k
  unfold chars_Is.f
  repeat' first
      | (with_reducible exact slices_Contains_int_int.mono _ _ _)
      | (with_reducible exact LeO.refl _)
      | (with_reducible exact LeO.none _)
      | (with_reducible refine LeO.ite ?_ ?_)
      | (with_reducible refine LeO.bind ?_ (fun _ => ?_))
      | exact slices_Contains_int_int.mono _ _ _
      | exact LeO.none _
      | refine LeO.ite ?_ ?_
      | refine LeO.bind ?_ (fun _ => ?_)
set_option maxHeartbeats 8000000 in
set_option maxRecDepth 100000 in
theorem chars_Is.calls (k : Nat) (P_ : Nat → Prop) (a0 : Int) (A1 : Option Addr) (c1 : Nat) (l1 : List Int) (r : Bool) (w : World) (hs1 : Kd.F (Kd.int .i64) w P_ A1 l1.length l1) (hc1 : l1.length ≤ c1) (h : chars_Is.f k a0 l1 = some r) :
    Calls Try.prog 10 #[.int .i32 a0, .slice A1 l1.length c1] w (fun e w' => e = .returned (.bool r) ∧ Drawn0 w w') := by
  have HH := Aside0.mk (show ((chars_Kind.f a0).bind fun t1 => ((slices_Contains_int_int.f k l1 t1).bind fun t4 => (some t4))) = some r from h)
  clear h
  have HF1 := Aside0.mk (Kd.F_mono hs1 (fun k_ hk_ => (.inl hk_ : P_ k_ ∨ w.heap.size ≤ k_)))
  have HL1 := Aside0.mk hc1
  clear hs1 hc1
  go_enter Try.func10, Try.ntmps10
  have H := HH.out
  replace H := Option.bind_eq_some_iff.mp H
  obtain ⟨t1, at_, H⟩ := H
  have At2 := Aside0.mk at_
  clear at_
  replace HH := Aside0.mk (show ((slices_Contains_int_int.f k l1 t1).bind fun t4 => (some t4)) = some r from H)
  clear H
  go_wp2_with (((with_reducible refine gate_callee (f := 8) rfl ?_); (try (refine gate_guard (by rfl) ?_; dsimp only)); refine goesL_ (some 7) rfl rfl Try.func8 (by kernel_rfl) rfl #[.int .i32 a0] rfl (by (try simp only [List.map_toArray, List.map_cons, List.map_nil]); first | done | rfl | (simp only [List.length_drop, List.length_take]; rfl)) ?_; (with_reducible refine (chars_Kind.calls  a0 t1 _  At2.out).mono ?_); rintro e w' ⟨rfl, ⟨nd, rfl⟩⟩; refine ⟨_, rfl, ?_⟩); refine stop_ ?_)
  refine Stop.go ?_
  have H := HH.out
  replace H := Option.bind_eq_some_iff.mp H
  obtain ⟨t4, at_, H⟩ := H
  have At5 := Aside0.mk at_
  clear at_
  replace HH := Aside0.mk (show (some t4) = some r from H)
  clear H
  go_wp2_with (((with_reducible refine gate_callee (f := 32) rfl ?_); (try (refine gate_guard (by rfl) ?_; dsimp only)); refine goesL_ (some 8) rfl rfl Try.func32 (by kernel_rfl) rfl #[.slice A1 l1.length c1, .int .i64 t1] rfl (by (try simp only [List.map_toArray, List.map_cons, List.map_nil]); first | done | rfl | (simp only [List.length_drop, List.length_take]; rfl)) ?_; (with_reducible refine (slices_Contains_int_int.calls k (fun k_ => (P_ k_ ∨ w.heap.size ≤ k_)) _ _ l1 t1 t4 _ (Kd.F_mono (ok := (fun k_ => (P_ k_ ∨ w.heap.size ≤ k_))) (by (with_reducible repeat (first | apply Kd.F_alloc | apply Kd.F_drewN | apply Kd.F_drew)); exact HF1.out) (fun k_ hk_ => hk_)) HL1.out At5.out).mono ?_); rintro e w' ⟨rfl, ⟨nd, rfl⟩⟩; refine ⟨_, rfl, ?_⟩); refine stop_ ?_)
  refine Stop.go ?_
  have H := HH.out
  obtain rfl := Option.some.inj H
  clear HH
  go_wp2
  go_ret
  exact ⟨by first | rfl | (simp; done) | (simp [*]; done), by repeat (first | exact Drawn0.refl _ | apply Drawn0.step)⟩

end Go.Proofs.Ytkbiiijmgbjnkaa.GA
