import Derived.Test.YthfonbnbffloaaaPuB
import Derived.Test.YthfonbnbffloaaaGAF7
import Derived.Test.YthfonbnbffloaaaGAF8
/- Plain laws of elements: how few they are. -/
namespace Go.Proofs.Ythfonbnbffloaaa.PuA
open Go Go.RowKit Go.Proofs.Ythfonbnbffloaaa.GA Go.Proofs.Ythfonbnbffloaaa.OA Go.Proofs.Ythfonbnbffloaaa.PuE Go.Proofs.YthfonbnbffloaaaW.PrintWords Go.Proofs.YthfonbnbffloaaaW.PrintLast Go.Proofs.YthfonbnbffloaaaW.PrintMore
set_option linter.unusedVariables false
set_option linter.unusedSimpArgs false
/-! ### how few -/
theorem few_ev : ∀ (m : Nat) (e : S26) (x : Int), W e → 0 ≤ x → x < m → x ≤ 300 → ∃ r, Evt (fun k => toponymlaw15_Few.f k e.f0 e.f1 e.f2 e.f3 e.f4 x) r ∧ -1 ≤ r ∧ r < x
  | 0, e, x, _, h0, h1, _ => by omega
  | m + 1, e, x, he, h0, h1, h3 => by
    by_cases hc : (e.f3.size : Int) > 5000
    · refine ⟨-1, Evt.step ?_, by omega, by omega⟩
      simp only [toponymlaw15_Few.f, if_pos hc]
      exact Evt.now _
    · have loop : ∀ (r p : List S26) (z : Int), e.f4 = p ++ r → -1 ≤ z → z ≤ x - 1 → ∃ q, Evt (fun k => toponymlaw15_Few.l0 k z (p.length : Int) e.f4) q ∧ -1 ≤ q ∧ q ≤ x - 1 := by
        intro r
        induction r with
        | nil =>
          intro p z hp z0 z1
          refine ⟨z, Evt.step ?_, z0, z1⟩
          simp only [toponymlaw15_Few.l0, hp, if_neg (nlt_end p)]
          exact Evt.now _
        | cons y r ih =>
          intro p z hp z0 z1
          have hnx := next_len p y r (by rw [← hp]; exact he.len)
          have hy : y ∈ e.f4 := by rw [hp]; simp
          by_cases hz : z ≥ 0
          · obtain ⟨q1, e1, a1, b1⟩ := few_ev m y z (he.kid y hy) hz (by omega) (by omega)
            obtain ⟨q, e2, a2, b2⟩ := ih (p ++ [y]) q1 (by rw [hp, snoc]) a1 (by omega)
            refine ⟨q, Evt.step ?_, a2, b2⟩
            simp only [hp] at e2 ⊢
            simp only [toponymlaw15_Few.l0, if_pos (lt_mid p y r), if_pos hz, if_pos (Int.natCast_nonneg p.length), rd_mid, hnx]
            exact Evt.bind e1 e2
          · refine ⟨z, Evt.step ?_, z0, z1⟩
            simp only [toponymlaw15_Few.l0, if_neg hz, ite_self]
            exact Evt.now _
      obtain ⟨q, e1, a1, b1⟩ := loop e.f4 [] (x - 1) rfl (by omega) (by omega)
      refine ⟨q, Evt.step ?_, a1, by omega⟩
      simp only [toponymlaw15_Few.f, if_neg hc]
      rw [w64 _ (by omega)]
      exact e1
theorem awake_ : toponymlaw15_awake.f 60 = some true := by decide +kernel
theorem awake_ev : Evt (fun k => toponymlaw15_awake.f k) true := Evt.mono_ (fun k => toponymlaw15_awake.mono k) awake_
end Go.Proofs.Ythfonbnbffloaaa.PuA
