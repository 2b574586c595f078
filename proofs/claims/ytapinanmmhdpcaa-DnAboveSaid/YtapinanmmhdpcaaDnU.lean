import Derived.Test.YtapinanmmhdpcaaDnH
import Derived.Test.YtapinanmmhdpcaaGM2
/- Plain law of names: what is above a name that was made below another one is that one. -/
namespace Go.Proofs.Ytapinanmmhdpcaa.DnA
open Go Go.RowKit Go.Proofs.Ytapinanmmhdpcaa.GA Go.Proofs.Ytapinanmmhdpcaa.PuE Go.Proofs.Ytapinanmmhdpcaa.DnL Go.Proofs.YtapinanmmhdpcaaW.PrintWords Go.Proofs.YtapinanmmhdpcaaW.PrintLast Go.Proofs.YtapinanmmhdpcaaW.PrintMore
set_option linter.unusedVariables false
set_option linter.unusedSimpArgs false
theorem dnAbove {p q:Prop} (L:List (List S53)) (r:List S53) (_:p) (_:q):∃ k,toponymlaw18_DnAbove.f k L r=some true:=by
 have aw:=Evt.bind awake_ev (g:=fun _ t=>some t) (Evt.now _)
 obtain⟨b1,h1,g1⟩:=few_ev L
 obtain⟨b3,h3,g3⟩:=few_ev [r]
 cases b1 with
 |false=>exact Evt.get (Evt.bind h1 (Evt.ifn (by simp) aw))
 |true=>
  cases b3 with
  |false=>exact Evt.get (Evt.bind h1 (Evt.ifp rfl (Evt.bind h3 (Evt.ifn (by simp) aw))))
  |true=>
   have hL:=g1 rfl
   have hr:=g3 rfl
   have hb:=below_ev hL hr
   have bad:belowR L r=([],220)→∃ k,toponymlaw18_DnAbove.f k L r=some true:=by
    intro e
    rw[e] at hb
    exact Evt.get (Evt.bind h1 (Evt.ifp rfl (Evt.bind h3 (Evt.ifp rfl (Evt.bind hb (Evt.ifn (by decide) (Evt.ifp rfl aw)))))))
   cases hok:okN (nm L) with
   |false=>exact bad (by simp[belowR,hok])
   |true=>
    by_cases h6:L.length≥6
    ·exact bad (by simp[belowR,hok,h6])
    ·cases hor:okN (nm [r]) with
     |false=>exact bad (by simp[belowR,hok,h6,hor])
     |true=>
      have e:belowR L r=([r]++L,0):=by simp[belowR,hok,h6,hor]
      rw[e] at hb
      have hm:few ([r]++L):=by
       refine⟨by simp;omega,fun x hx=>?_⟩
       rcases List.mem_append.1 hx with hx|hx
       ·exact hr.2 x hx
       ·exact hL.2 x hx
      have hokm:okN (nm ([r]++L))=true:=by
       obtain⟨_,o1⟩:=okN_all hok
       obtain⟨_,o2⟩:=okN_all hor
       simp only[okN,Bool.and_eq_true,List.all_eq_true,decide_eq_true_eq]
       refine⟨by simp[nm];omega,fun x hx=>?_⟩
       simp only[nm,List.map_append,List.mem_append] at hx
       rcases hx with hx|hx
       ·exact o2 x hx
       ·exact o1 x hx
      have ha:=above_ev hm
      have ea:aboveR ([r]++L)=(L,true):=by unfold aboveR;rw[if_pos hokm,if_neg (by simp)];rfl
      rw[ea] at ha
      have s1:=rsame_ev L L hL
      have s2:=rsame_ev [r] [r] hr
      rw[sm_self] at s1 s2
      have hc:=chk_ev hm
      rw[hokm] at hc
      have hln:(([r]++L).length:Int)=wrap64 ((L.length:Int)+1):=by rw[w64 _ (by omega)];simp
      exact Evt.get (Evt.bind h1 (Evt.ifp rfl (Evt.bind h3 (Evt.ifp rfl (Evt.bind hb (Evt.ifp rfl (Evt.bind ha (Evt.ifp rfl (Evt.bind s1 (Evt.ifp rfl (Evt.ifp hln (Evt.ifp (by simp;omega) (Evt.bind (Evt.of_all fun _=>rfl) (Evt.bind s2 (Evt.ifp rfl (Evt.bind hc (Evt.ifp rfl aw)))))))))))))))))
end Go.Proofs.Ytapinanmmhdpcaa.DnA
