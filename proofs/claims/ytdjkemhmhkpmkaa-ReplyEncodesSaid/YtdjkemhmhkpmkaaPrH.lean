import Derived.Test.YtdjkemhmhkpmkaaPrE
import Derived.Test.YtdjkemhmhkpmkaaGM2
import Derived.Test.YtdjkemhmhkpmkaaGM3
/- Plain law of ReplyEncodes. -/
namespace Go.Proofs.Ytdjkemhmhkpmkaa.PrH
open Go Go.RowKit Go.Proofs.Ytdjkemhmhkpmkaa.GA Go.Proofs.Ytdjkemhmhkpmkaa.OA Go.Proofs.Ytdjkemhmhkpmkaa.PuE Go.Proofs.Ytdjkemhmhkpmkaa.PrI Go.Proofs.Ytdjkemhmhkpmkaa.PrS Go.Proofs.Ytdjkemhmhkpmkaa.PrB Go.Proofs.Ytdjkemhmhkpmkaa.PrE Go.Proofs.YtdjkemhmhkpmkaaW.PrintWords Go.Proofs.YtdjkemhmhkpmkaaW.PrintLast Go.Proofs.YtdjkemhmhkpmkaaW.PrintMore
set_option linter.unusedVariables false
set_option linter.unusedSimpArgs false
theorem replyEncodes (l : List S27) (hl : l.length * 104 ≤ 140737488351232 ∧ ∀ y ∈ l, G27 y) : ∃ k, toponymlaw27_ReplyEncodes.f k l = some true := by
 refine Evt.get (f := fun k => toponymlaw27_ReplyEncodes.f k l) ?_
 unfold toponymlaw27_ReplyEncodes.f
 by_cases h6 : (l.length : Int) > 6
 ·simp only [if_pos h6]
  exact Evt.bind awake_ev (Evt.now _)
 simp only [if_neg h6]
 have loop : ∀ (t p : List S27), l = p ++ t → Evt (fun k => toponymlaw27_ReplyEncodes.l0 k (p.length : Int) l) true := by
  intro t
  induction t with
  | nil =>
   intro p hp
   have he : ¬ (p.length : Int) < (l.length : Int) := by rw [hp]; simp
   obtain ⟨v, v1, v2, v3⟩ := Encode_both l (by omega) (fun y hy => bd_of (hl.2 y hy))
   have hS := rts_ev v.1 v.1 (by omega)
   have hv : txf v.1 v.1 = true := by unfold txf; rw [if_pos rfl, tx_self]
   rw [hv] at hS
   refine Evt.step ?_
   simp only [toponymlaw27_ReplyEncodes.l0, if_neg he]
   refine Evt.bind v1 ?_
   refine Evt.bind v2 ?_
   refine Evt.bind hS ?_
   simp only [if_true]
   exact Evt.bind awake_ev (Evt.now _)
  | cons y t ih =>
   intro p hp
   have hi := ih (p ++ [y]) (by rw [hp, snoc])
   have hnx := next_len p y t (by rw [← hp]; omega)
   have hlt : (p.length : Int) < (l.length : Int) := by rw [hp]; exact lt_mid p y t
   have hy : rd_T27 l (p.length : Int) = y := by rw [hp]; unfold rd_T27; simp
   have hg := hl.2 y (by rw [hp]; simp)
   obtain ⟨u, hu⟩ := few_ev y (small hg).1 (small hg).2
   obtain ⟨x, hx1, hx2⟩ := Check_both y (bd_of hg)
   refine Evt.step ?_
   simp only [toponymlaw27_ReplyEncodes.l0, if_pos hlt, if_pos (Int.natCast_nonneg p.length), hy]
   refine Evt.bind hu ?_
   cases u
   ·simp only [Bool.false_eq_true, if_false]
    exact Evt.bind awake_ev (Evt.now _)
   ·simp only [if_true]
    refine Evt.bind hx1 ?_
    refine Evt.bind hx2 ?_
    simp only [if_true, hnx]
    exact hi
 exact loop l [] rfl
end Go.Proofs.Ytdjkemhmhkpmkaa.PrH
