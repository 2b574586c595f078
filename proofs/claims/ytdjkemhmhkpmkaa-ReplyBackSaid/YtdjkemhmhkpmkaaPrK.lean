import Derived.Test.YtdjkemhmhkpmkaaPrC
import Derived.Test.YtdjkemhmhkpmkaaGAF6
/- Plain law. -/
namespace Go.Proofs.Ytdjkemhmhkpmkaa.PrK
open Go Go.RowKit Go.Proofs.Ytdjkemhmhkpmkaa.GA Go.Proofs.Ytdjkemhmhkpmkaa.OA Go.Proofs.Ytdjkemhmhkpmkaa.PuE Go.Proofs.Ytdjkemhmhkpmkaa.PrI Go.Proofs.Ytdjkemhmhkpmkaa.PrS Go.Proofs.Ytdjkemhmhkpmkaa.PrB Go.Proofs.YtdjkemhmhkpmkaaW.PrintWords Go.Proofs.YtdjkemhmhkpmkaaW.PrintLast Go.Proofs.YtdjkemhmhkpmkaaW.PrintMore
set_option linter.unusedVariables false
set_option linter.unusedSimpArgs false
open Go.Proofs.Ytdjkemhmhkpmkaa.PrC
theorem bd_of {a : S27} (h : G27 a) : Bd a := by
 obtain ⟨h1, h2⟩ := small h
 cases h with
 | mk _ _ _ h4 h5 h6 h7 h7' => exact ⟨h4, h5, h6, h1, h2⟩
theorem replyBack (a : S27) (ga : G27 a) : ∃ k, toponymlaw27_ReplyBack.f k a.f0 a.f1 a.f2 a.f3 a.f4 a.f5 a.f6 a.f7 = some true := by
 refine Evt.get (f := fun k => toponymlaw27_ReplyBack.f k a.f0 a.f1 a.f2 a.f3 a.f4 a.f5 a.f6 a.f7) ?_
 unfold toponymlaw27_ReplyBack.f
 obtain ⟨u, hu⟩ := few_ev a (small ga).1 (small ga).2
 refine Evt.bind hu ?_
 cases u
 ·simp only [Bool.false_eq_true, if_false]
  exact Evt.bind awake_ev (Evt.now _)
 simp only [if_true]
 obtain ⟨x, hx, hc⟩ := Check_ev a (bd_of ga)
 have hE := Encode_ev a (bd_of ga) x hx hc
 by_cases hx0 : x = 0
 ·subst hx0
  have hok := hx.2 rfl
  simp only [if_true] at hE
  by_cases hy : (PbA.enc [el a]).2 = 0
  ·rw [if_pos hy] at hE
   have hs : PbA.enc [el a] = ((PbA.enc [el a]).1, 0) := by rw [← hy]
   generalize (PbA.enc [el a]).1 = s at hE hs
   refine Evt.bind hE ?_
   simp only [if_true, if_pos (show (([s] : List ByteArray).length : Int) = 1 by simp), if_pos (show (0 : Int) < (([s] : List ByteArray).length : Int) by simp), show rdOf ByteArray.empty [s] 0 = s from rfl]
   refine Evt.bind (Decode_el a hok hc s hs) ?_
   simp only [r9, if_true]
   have hS := refSame a a (small ga).1 (small ga).2
   rw [sm_self] at hS
   refine Evt.bind hS ?_
   simp only [if_true]
   exact Evt.bind awake_ev (Evt.now _)
  ·rw [if_neg hy] at hE
   have h3 : (PbA.enc [el a]).2 = 3 := by
    rw [enc_el a hok] at hy ⊢
    split at hy
    ·exact absurd rfl hy
    ·rename_i hl; rw [if_neg hl]
   rw [h3] at hE
   refine Evt.bind hE ?_
   simp only [if_neg (show ¬ (3 : Int) = 0 by decide), if_pos (show (([] : List ByteArray).length : Int) = 0 from rfl)]
   refine Evt.bind hc ?_
   simp only [if_neg (show ¬ (0 : Int) = 270 by decide)]
   refine Evt.bind hc ?_
   simp only [if_true]
   exact Evt.bind awake_ev (Evt.now _)
 ·have h270 : x = 270 := by rcases hx.1 with h | h; exact absurd h hx0; exact h
  subst h270
  rw [if_neg hx0] at hE
  refine Evt.bind hE ?_
  simp only [if_neg hx0, if_pos (show (([] : List ByteArray).length : Int) = 0 from rfl)]
  refine Evt.bind hc ?_
  simp only [if_true]
  exact Evt.bind awake_ev (Evt.now _)
end Go.Proofs.Ytdjkemhmhkpmkaa.PrK
