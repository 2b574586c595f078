import Derived.Test.YtapinanmmhdpcaaDnF
import Derived.Test.YtapinanmmhdpcaaGM2
/- Plain law of names: what is read may be, and is read again out of its text. -/
namespace Go.Proofs.Ytapinanmmhdpcaa.DnA
open Go Go.RowKit Go.Proofs.Ytapinanmmhdpcaa.GA Go.Proofs.Ytapinanmmhdpcaa.PuE Go.Proofs.Ytapinanmmhdpcaa.DnL Go.Proofs.YtapinanmmhdpcaaW.PrintWords Go.Proofs.YtapinanmmhdpcaaW.PrintLast Go.Proofs.YtapinanmmhdpcaaW.PrintMore
set_option linter.unusedVariables false
set_option linter.unusedSimpArgs false
theorem dnForms {p:Prop} (s:ByteArray) (_:p):∃ k,toponymlaw18_DnForms.f k s=some true:=by
 have aw:=Evt.bind awake_ev (g:=fun _ t=>some t) (Evt.now _)
 have hp:=parse_ev s
 obtain⟨g1,g2⟩:=parR_sound (B s)
 have hL:=parR_few (B s)
 by_cases h0:(parR (B s)).2=0
 ·have hok:=g1 h0
  have hs:=show_ev _ hL
  have hc:=chk_ev hL
  rw[hok] at hc
  simp only[showR,hok,if_true] at hs
  have hq:=parse_ev (A8 (nameT (nm (parR (B s)).1)))
  rw[B_A8] at hq
  by_cases hz:(nameT (nm (parR (B s)).1)).length>3000
  ·exact Evt.get (Evt.bind hp (Evt.ifp h0 (Evt.bind hs (Evt.bind hq (Evt.ifp rfl (Evt.bind hc (Evt.ifp rfl (Evt.ifp (by rw[size_A8];omega) aw))))))))
  ·rw[parR_name hok (by omega)] at hq
   have h3:=rsame_ev _ (parR (B s)).1 hL
   rw[sm_self] at h3
   exact Evt.get (Evt.bind hp (Evt.ifp h0 (Evt.bind hs (Evt.bind hq (Evt.ifp rfl (Evt.bind hc (Evt.ifp rfl (Evt.ifn (by rw[size_A8];omega) (Evt.ifp rfl (Evt.bind h3 (Evt.ifp rfl aw)))))))))))
 ·exact Evt.get (Evt.bind hp (Evt.ifn h0 (Evt.ifp (by rw[g2 h0];rfl) aw)))
end Go.Proofs.Ytapinanmmhdpcaa.DnA
