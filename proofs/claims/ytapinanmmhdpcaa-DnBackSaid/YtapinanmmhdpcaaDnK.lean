import Derived.Test.YtapinanmmhdpcaaDnG
import Derived.Test.YtapinanmmhdpcaaGM2
/- Plain law of names: a name is read as it was written. -/
namespace Go.Proofs.Ytapinanmmhdpcaa.DnA
open Go Go.RowKit Go.Proofs.Ytapinanmmhdpcaa.GA Go.Proofs.Ytapinanmmhdpcaa.PuE Go.Proofs.Ytapinanmmhdpcaa.DnL Go.Proofs.YtapinanmmhdpcaaW.PrintWords Go.Proofs.YtapinanmmhdpcaaW.PrintLast Go.Proofs.YtapinanmmhdpcaaW.PrintMore
set_option linter.unusedVariables false
set_option linter.unusedSimpArgs false
theorem dnBack {p:Prop} (L:List (List S53)) (_:p):∃ k,toponymlaw18_DnBack.f k L=some true:=by
 obtain⟨b,h1,h2⟩:=few_ev L
 have aw:=Evt.bind awake_ev (g:=fun _ t=>some t) (Evt.now _)
 cases b with
 |false=>exact Evt.get (Evt.bind h1 (Evt.ifn (by simp) aw))
 |true=>
  have hL:=h2 rfl
  have hs:=show_ev L hL
  have hc:=chk_ev hL
  cases hok:okN (nm L) with
  |false=>
   simp only[showR,hok,Bool.false_eq_true,if_false] at hs
   rw[hok] at hc
   exact Evt.get (Evt.bind h1 (Evt.ifp rfl (Evt.bind hs (Evt.ifn (by decide) (Evt.ifp (toList_nil.2 rfl) (Evt.bind hc (Evt.ifp rfl aw)))))))
  |true=>
   simp only[showR,hok,if_true] at hs
   have hp:=parse_ev (A8 (nameT (nm L)))
   rw[B_A8] at hp
   by_cases hz:(nameT (nm L)).length>3000
   ·have e:parR (nameT (nm L))=([],3):=by unfold parR;rw[if_pos hz]
    rw[e] at hp
    exact Evt.get (Evt.bind h1 (Evt.ifp rfl (Evt.bind hs (Evt.ifp rfl (Evt.bind hp (Evt.ifp (by rw[size_A8];omega) (Evt.ifp rfl aw)))))))
   ·rw[parR_name hok (by omega)] at hp
    have h3:=rsame_ev L L hL
    have h4:=dsame_ev L L hL
    rw[sm_self] at h3 h4
    exact Evt.get (Evt.bind h1 (Evt.ifp rfl (Evt.bind hs (Evt.ifp rfl (Evt.bind hp (Evt.ifn (by rw[size_A8];omega) (Evt.ifp rfl (Evt.bind h3 (Evt.ifp rfl (Evt.bind h4 (Evt.ifp rfl aw)))))))))))
end Go.Proofs.Ytapinanmmhdpcaa.DnA
