import Derived.Test.YtapinanmmhdpcaaDnF
import Derived.Test.YtapinanmmhdpcaaGM2
/- Plain law of names: any name is written as the document says. -/
namespace Go.Proofs.Ytapinanmmhdpcaa.DnA
open Go Go.RowKit Go.Proofs.Ytapinanmmhdpcaa.GA Go.Proofs.Ytapinanmmhdpcaa.PuE Go.Proofs.Ytapinanmmhdpcaa.DnL Go.Proofs.YtapinanmmhdpcaaW.PrintWords Go.Proofs.YtapinanmmhdpcaaW.PrintLast Go.Proofs.YtapinanmmhdpcaaW.PrintMore
set_option linter.unusedVariables false
set_option linter.unusedSimpArgs false
theorem dnShows {p q:Prop} (L:List (List S53)) (w:ByteArray) (_:p) (_:q):∃ k,toponymlaw18_DnShows.f k L w=some true:=by
 obtain⟨b,h1,h2⟩:=few_ev L
 have aw:=Evt.bind awake_ev (g:=fun _ t=>some t) (Evt.now _)
 cases b with
 |false=>exact Evt.get (Evt.bind h1 (Evt.ifn (by simp) aw))
 |true=>
  have hL:=h2 rfl
  by_cases hw:(w.size:Int)>10000
  ·exact Evt.get (Evt.bind h1 (Evt.ifp rfl (Evt.ifp hw aw)))
  ·refine Evt.get (Evt.bind h1 (Evt.ifp rfl (Evt.ifn hw (Evt.bind (show_ev L hL) (Evt.bind (rshow_ev L hL) (Evt.bind (chk_ev hL) (Evt.bind (rchk_ev hL) (Evt.ifp rfl (Evt.ifp rfl (Evt.ifp rfl (Evt.bind (word_ev w (by omega)) (Evt.bind (rword_ev w (by omega)) (Evt.ifp (by simp) aw)))))))))))))
end Go.Proofs.Ytapinanmmhdpcaa.DnA
