import Derived.Test.YtdjkemhmhkpmkaaPrC
import Derived.Test.YtdjkemhmhkpmkaaGM3
/- Plain law. -/
namespace Go.Proofs.Ytdjkemhmhkpmkaa.PrF
open Go Go.RowKit Go.Proofs.Ytdjkemhmhkpmkaa.GA Go.Proofs.Ytdjkemhmhkpmkaa.OA Go.Proofs.Ytdjkemhmhkpmkaa.PuE Go.Proofs.Ytdjkemhmhkpmkaa.PrI Go.Proofs.Ytdjkemhmhkpmkaa.PrS Go.Proofs.Ytdjkemhmhkpmkaa.PrB Go.Proofs.YtdjkemhmhkpmkaaW.PrintWords Go.Proofs.YtdjkemhmhkpmkaaW.PrintLast Go.Proofs.YtdjkemhmhkpmkaaW.PrintMore
set_option linter.unusedVariables false
set_option linter.unusedSimpArgs false
open Go.Proofs.Ytdjkemhmhkpmkaa.PrC
theorem replyForms (s : ByteArray) (_ : s.size ≤ 140737488351232) : ∃ k, toponymlaw27_ReplyForms.f k s = some true := by
 refine Evt.get (f := fun k => toponymlaw27_ReplyForms.f k s) ?_
 unfold toponymlaw27_ReplyForms.f
 rcases Decode_ev s with ⟨x, hx, hD⟩ | ⟨q, hok, hc, hs, hD⟩
 ·refine Evt.bind hD ?_
  have hx0 : ¬ x = 0 := by omega
  refine Evt.ifn hx0 ?_
  have hS := refSame q0 q0 (by simp [q0]) (by simp [q0])
  rw [sm_self] at hS
  refine Evt.bind hS ?_
  simp only [if_true]
  exact Evt.bind awake_ev (Evt.now _)
 ·refine Evt.bind hD ?_
  simp only [r9, if_true]
  have hE := Encode_ev q hok.bd 0 ⟨.inl rfl, fun _ => hok⟩ hc
  rw [hs] at hE
  simp only [if_true] at hE
  refine Evt.bind hE ?_
  simp only [if_true, if_pos (show (([s] : List ByteArray).length : Int) = 1 by simp), if_pos (show (0 : Int) < (([s] : List ByteArray).length : Int) by simp), if_pos (show (rdOf ByteArray.empty [s] 0).toList = s.toList from rfl)]
  refine Evt.bind hc ?_
  simp only [if_true]
  exact Evt.bind awake_ev (Evt.now _)
end Go.Proofs.Ytdjkemhmhkpmkaa.PrF
