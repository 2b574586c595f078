-- written by wip/gen.py, a program of this session
import Derived.Test.YtliackbiljhioaaGA0
namespace Go.Proofs.Ytliackbiljhioaa.GA
open Go.RowKit Go.Proofs.Ytliackbiljhioaa Go.Proofs.Ytliackbiljhioaa.MW Go.Proofs.YtliackbiljhioaaW.PrintWords Go.Proofs.YtliackbiljhioaaW.PrintLast Go.Proofs.YtliackbiljhioaaW.PrintMore
attribute [local go_sem] max2_int min2_int max_two min_two
set_option linter.unusedVariables false
set_option linter.unusedSimpArgs false


/-! ### Clone_31: function 31 (slices.Clone) -/
def Clone_31.f (l0 : List (S28)) : Option (List (S28)) := if l0.length < 2199023255552 then some l0 else none
set_option maxHeartbeats 8000000 in
set_option maxRecDepth 100000 in
theorem Clone_31.calls (P_ : Nat → Prop) (A0 : Option Addr) (c0 : Nat) (l0 : List (S28)) (r : List (S28)) (w : World) (hs0 : Kd.F k28 w P_ A0 l0.length l0) (hc0 : l0.length ≤ c0) (h : Clone_31.f l0 = some r) :
    Calls Try.prog 31 #[.slice A0 l0.length c0] w fun e w' => ∃ v0_ : Value, e = .returned (v0_) ∧ Kd.N k28 28 w' w.heap.size (fun k_ => P_ k_ ∨ w.heap.size ≤ k_) v0_ r ∧ Below w.heap.size w w' := by
  have hu := Try.underlying24
  unfold Clone_31.f at h
  by_cases hl : l0.length < 2199023255552
  · rw [if_pos hl] at h
    obtain rfl := Option.some.inj h
    clear h
    have heq := fun W => Lib.run_eql_slice_nil (P := Try.prog) W 24 28 A0 l0.length c0 0 0 hu
    have HF := Aside0.mk (Kd.F_mono hs0 (fun k_ hk_ => (.inl hk_ : P_ k_ ∨ w.heap.size ≤ k_)))
    cases A0 with
    | none =>
      have hz : l0 = [] := by
        have h2 := (Kd.F_now hs0).2.2
        cases l0 with
        | nil => rfl
        | cons a l => obtain ⟨ad, e, _⟩ := h2 (by simp); cases e
      subst hz
      clear hs0
      simp only [List.length_nil] at heq
      go_enter Try.func31, Try.ntmps31
      go_wp2
      go_ret
      exact ⟨_, rfl, Kd.N_nil _ _ _ _ _, Below.refl _ _⟩
    | some ad =>
      clear hs0
      go_enter Try.func31, Try.ntmps31
      go_wp2_with ((with_reducible refine gate_dst (N := 5) rfl ?_); refine Kd.N_lit k28 w.heap.size 28 rfl rfl (xs := []) (inner := []) (ok := fun k_ => P_ k_ ∨ w.heap.size ≤ k_) (okp := fun _ => False) ?hr ?hp (fun _ h => h.elim) (.inr (Nat.le_refl _)) (Below.refl _ _) (Nat.le_refl _) (by simp) ?_; (case hr => first | (go_simp; done) | (go_simp; rfl)); (case hp => exact Reps.none _ _); intro v1 w1 hN hB hg hat; replace hat := Aside0.mk hat; refine stop_ ?_)
      refine Stop.go ?_
      replace hat := hat.out
      have HN := Aside0.mk hN
      have HB := Aside0.mk hB
      have HF1 := Aside0.mk (Kd.F_elder' HF.out (MW.base_of hat) (MW.grown_below hg))
      clear hN hB hg hat
      go_wp2_with ((with_reducible refine gate_dst (N := 7) rfl ?_); refine Kd.N_append_rows k28 w.heap.size rfl _ _ 24 28 (.agg #[(.int .i64 0), (.bool false), (.int .i64 0), (.string ⟨#[]⟩), (.slice none 0 0)]) 64 rfl hu info28 rfl (by decide) (by decide) _ _ l0 _ _ _ (fun k_ => P_ k_ ∨ w.heap.size ≤ k_) _ rfl rfl HN.out HF1.out (fun _ hk => hk) (fun k_ h_ => .inr (Nat.le_trans HB.out.size h_)) HB.out HB.out.size (by simp; omega) ?_; intro v2 w2 hN2 hB2 hg2 hat2; replace hat2 := Aside0.mk hat2; refine stop_ ?_)
      refine Stop.go ?_
      have HN2 := Aside0.mk hN2
      have HB2 := Aside0.mk hB2
      clear hN2 hB2 hg2 hat2 HN HB HF1 HF
      go_wp2
      go_ret
      exact ⟨_, rfl, HN2.out, HB2.out⟩
  · rw [if_neg hl] at h
    exact absurd h (by simp)

end Go.Proofs.Ytliackbiljhioaa.GA
