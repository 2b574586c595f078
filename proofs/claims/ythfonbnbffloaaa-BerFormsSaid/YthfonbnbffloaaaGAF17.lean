-- written by wip/gen.py, a program of this session
import Derived.Test.YthfonbnbffloaaaGA0
import Derived.Test.YthfonbnbffloaaaGAF28
namespace Go.Proofs.Ythfonbnbffloaaa.GA
open Go.RowKit Go.Proofs.Ythfonbnbffloaaa Go.Proofs.Ythfonbnbffloaaa.MW Go.Proofs.YthfonbnbffloaaaW.PrintWords Go.Proofs.YthfonbnbffloaaaW.PrintLast Go.Proofs.YthfonbnbffloaaaW.PrintMore
attribute [local go_sem] max2_int min2_int max_two min_two
set_option linter.unusedVariables false
set_option linter.unusedSimpArgs false


/-! ### ber_All: function 17 -/
def ber_All.f (k : Nat) (a0 : ByteArray) : Option ((List (S26)) × Int) := if (a0.size : Int) > 4000 then (some (([] : List (S26)), 3)) else ((ber_several.f k a0 12).bind fun bt6 => (some (bt6.1, bt6.2)))
theorem ber_All.mono : ∀ a0_ k, LeO (ber_All.f k a0_) (ber_All.f (k + 1) a0_) := by
  intro a0_ k
  unfold ber_All.f
  repeat' first
      | (with_reducible exact ber_several.mono _ _ _)
      | (with_reducible exact LeO.refl _)
      | (with_reducible exact LeO.none _)
      | (with_reducible refine LeO.ite ?_ ?_)
      | (with_reducible refine LeO.bind ?_ (fun _ => ?_))
      | exact ber_several.mono _ _ _
      | exact LeO.none _
      | refine LeO.ite ?_ ?_
      | refine LeO.bind ?_ (fun _ => ?_)
set_option maxHeartbeats 8000000 in
set_option maxRecDepth 100000 in
theorem ber_All.calls (k : Nat) (a0 : ByteArray) (r1 : List (S26)) (r2 : Int) (w : World) (h : ber_All.f k a0 = some (r1, r2)) :
    Calls Try.prog 17 #[.string a0] w (fun e w' => ∃ v0_ : Value, e = .returned (.tuple #[v0_, .int .i64 r2]) ∧ Kd.N k26 26 w' w.heap.size (fun k_ => w.heap.size ≤ k_) v0_ r1 ∧ Below w.heap.size w w') := by
  have HH := Aside0.mk (show (if (a0.size : Int) > 4000 then (some (([] : List (S26)), 3)) else ((ber_several.f k a0 12).bind fun bt6 => (some (bt6.1, bt6.2)))) = some (r1, r2) from h)
  clear h
  have HB := Aside0.mk (Below.refl w.heap.size w)
  go_enter Try.func17, Try.ntmps17
  by_cases c1 : (a0.size : Int) > 4000
  · have H := HH.out
    rw [if_pos c1] at H
    replace HH := Aside0.mk H
    clear H
    have hk2 : decide (4000 < (a0.size : Int)) = true := decide_eq_true c1
    have hk3 : decide (4000 < a0.size) = true := decide_eq_true (by omega)
    clear c1
    have H := HH.out
    simp only [Option.some.injEq, Prod.mk.injEq] at H
    obtain ⟨rfl, rfl⟩ := H
    clear HH
    go_wp2
    go_ret2
    exact ⟨_, by first | rfl | (simp; done) | (simp [*]; done), (Kd.N_nil _ _ _ _ _), HB.out⟩
  · have H := HH.out
    rw [if_neg c1] at H
    replace HH := Aside0.mk H
    clear H
    have hk4 : decide (4000 < (a0.size : Int)) = false := decide_eq_false c1
    have hk5 : decide (4000 < a0.size) = false := decide_eq_false (by omega)
    clear c1
    have H := HH.out
    replace H := Option.bind_eq_some_iff.mp H
    obtain ⟨⟨t6, t7⟩, at_, H⟩ := H
    have At8 := Aside0.mk at_
    clear at_
    replace HH := Aside0.mk (show (some (t6, t7)) = some (r1, r2) from H)
    clear H
    go_wp2_with (((with_reducible refine gate_callee (f := 29) rfl ?_); (try (refine gate_guard (by rfl) ?_; dsimp only)); refine goesL_ (some 8) rfl rfl Try.func29 (by kernel_rfl) rfl #[.string a0, .int .i64 12] rfl (by (try simp only [List.map_toArray, List.map_cons, List.map_nil]); first | done | rfl | (simp only [List.length_drop, List.length_take]; rfl)) ?_; (with_reducible refine (ber_several.calls k  a0 12 t6 t7 _  At8.out).mono ?_); rintro e w9 ⟨v10, rfl, hn10, hb⟩; refine ⟨_, rfl, ?_⟩); refine stop_ ?_)
    refine Stop.go ?_
    have hba := Kd.N_base hn10
    have HN10 := Aside0.mk (Kd.N_mono (Kd.N_lower hn10 (below_size HB.out)) (fun k_ h_ => (Nat.le_trans (below_size HB.out) h_)) : Kd.N k26 26 w9 w.heap.size (fun k_ => (w.heap.size ≤ k_)) v10 t6)
    replace HB := Aside0.mk (below_step HB.out hb)
    clear hn10 hba hb
    have H := HH.out
    simp only [Option.some.injEq, Prod.mk.injEq] at H
    obtain ⟨rfl, rfl⟩ := H
    clear HH
    go_wp2
    go_ret2
    exact ⟨_, by first | rfl | (simp; done) | (simp [*]; done), (Kd.N_mono (ok := (fun k_ => (w.heap.size ≤ k_))) HN10.out (fun k_ hk_ => hk_)), HB.out⟩

end Go.Proofs.Ythfonbnbffloaaa.GA
