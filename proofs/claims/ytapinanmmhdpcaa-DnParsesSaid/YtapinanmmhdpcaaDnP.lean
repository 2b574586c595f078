import Derived.Test.YtapinanmmhdpcaaDnD
import Derived.Test.YtapinanmmhdpcaaGM2
/- Plain law of names: any text is the document's name, and part, or none. -/
namespace Go.Proofs.Ytapinanmmhdpcaa.DnA
open Go Go.RowKit Go.Proofs.Ytapinanmmhdpcaa.GA Go.Proofs.Ytapinanmmhdpcaa.PuE Go.Proofs.Ytapinanmmhdpcaa.DnL Go.Proofs.YtapinanmmhdpcaaW.PrintWords Go.Proofs.YtapinanmmhdpcaaW.PrintLast Go.Proofs.YtapinanmmhdpcaaW.PrintMore
set_option linter.unusedVariables false
theorem dnParses (s : ByteArray) (hs : s.size ≤ 140737488351232) : ∃ k, toponymlaw18_DnParses.f k s = some true := by
  have hp := parse_ev s
  have hr := rparse_ev s
  have hd := rdn_ev s
  have he := rrdn_ev s
  rw [← parR_refR] at hr he
  have h1 := rsame_ev _ (parR (B s)).1 (parR_few (B s))
  have h2 := rsame_ev _ [(rdnR (parR (B s))).1] (rdnR_few _ (parR_few (B s)))
  rw [sm_self] at h1 h2
  refine Evt.get (Evt.bind hp (Evt.bind hr (Evt.bind hd (Evt.bind he (Evt.bind h1 (Evt.ifp rfl (Evt.ifp rfl (Evt.bind h2 (Evt.ifp rfl (Evt.ifp rfl (Evt.bind awake_ev (Evt.now _))))))))))))
end Go.Proofs.Ytapinanmmhdpcaa.DnA
