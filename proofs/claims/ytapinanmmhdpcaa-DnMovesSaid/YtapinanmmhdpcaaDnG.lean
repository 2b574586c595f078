import Derived.Test.YtapinanmmhdpcaaDnF
import Derived.Test.YtapinanmmhdpcaaGM1
import Derived.Test.YtapinanmmhdpcaaGM1
/- Plain laws of names: the same names, by the program. -/
namespace Go.Proofs.Ytapinanmmhdpcaa.DnA
open Go Go.RowKit Go.Proofs.Ytapinanmmhdpcaa.GA Go.Proofs.Ytapinanmmhdpcaa.PuE Go.Proofs.Ytapinanmmhdpcaa.DnL Go.Proofs.YtapinanmmhdpcaaW.PrintWords Go.Proofs.YtapinanmmhdpcaaW.PrintLast Go.Proofs.YtapinanmmhdpcaaW.PrintMore
set_option linter.unusedVariables false
set_option linter.unusedSimpArgs false
theorem dsame1_l0 {a b:List S53} (ha:a.length≤1000000) (hlen:a.length=b.length):∀ (q p q2 p2:List S53),a=p++q→b=p2++q2→p.length=p2.length→Evt (fun k=>api_Pair_39.l0 k (p.length:Int) a b) (decide (q.map ofS=q2.map ofS))
 |[],p,q2,p2,e1,e2,e3=>by
  have hq:q2=[]:=by
   have:q2.length=0:=by rw[e1,e2] at hlen;simp at hlen;omega
   exact List.eq_nil_of_length_eq_zero this
  subst hq
  refine Evt.step (Evt.of_all fun k=>?_)
  rw[api_Pair_39.l0,if_neg (nltL e1)]
  rfl
 |x::q,p,q2,p2,e1,e2,e3=>by
  cases q2 with
  |nil=>rw[e1,e2] at hlen;simp at hlen;omega
  |cons y q2=>
   have hx:wrap64 ((p.length:Int)+1)=((p++[x]).length:Int):=nxL p x (by rw[e1] at ha;simp at ha;omega)
   have hpb:(p.length:Int)<(b.length:Int):=by rw[e3];exact ltL e2
   have hry:rd_T53 b (p.length:Int)=y:=by rw[e3];exact rdT e2
   have ih:=dsame1_l0 ha hlen q (p++[x]) q2 (p2++[y]) (by rw[e1];simp) (by rw[e2];simp) (by simp[e3])
   have hst:∀ k,api_Pair_39.l0 (k+1) (p.length:Int) a b=if ((!(x.f0.toList==y.f0.toList)) || (!(x.f1.toList==y.f1.toList)))=true then some false else api_Pair_39.l0 k ((p++[x]).length:Int) a b:=by
    intro k
    rw[api_Pair_39.l0,if_pos (ltL e1),if_pos (Int.natCast_nonneg p.length),if_pos hpb,rdT e1,hry,hx]
   refine Evt.step (Evt.of_eq ?_ hst)
   by_cases hxy:ofS x=ofS y
   ·refine Evt.ifn (fun hh=>(pairS.1 hh) hxy) (ih.val ?_)
    rw[Bool.eq_iff_iff,decide_eq_true_iff,decide_eq_true_iff]
    simp[hxy]
   ·refine Evt.ifp (pairS.2 hxy) ((Evt.now _).val ?_)
    have: ¬ (ofS x::q.map ofS=ofS y::q2.map ofS):=fun e=>hxy (List.cons.inj e).1
    exact(decide_eq_false this).symm
theorem dsame1_ev {a b:List S53} (ha:a.length≤1000000):Evt (fun k=>dn_Same_1.f k a b) (decide (a.map ofS=b.map ofS)):=by
 have:Evt (fun k=>api_Pair_39.f k a b) (decide (a.map ofS=b.map ofS)):=by
  by_cases h:a.length=b.length
  ·exact Evt.of_eq (dsame1_l0 ha h a [] b [] rfl rfl rfl) fun k=>by simp only[api_Pair_39.f,if_pos (show(a.length:Int)=(b.length:Int) by omega)];rfl
  ·refine(Evt.of_all fun k=>?_).val (show false=_ from(decide_eq_false (fun e=>h (by have:=congrArg List.length e;simpa using this))).symm)
   simp only[api_Pair_39.f,if_neg (show ¬ (a.length:Int)=(b.length:Int) by omega)]
 exact Evt.bind this (Evt.now _)
theorem dsame_l0 {a b:List (List S53)} (ha:few a) (hlen:a.length=b.length):∀ (A2 A' B2 B':List (List S53)),a=A'++A2→b=B'++B2→A'.length=B'.length→Evt (fun k=>dn_Same.l0 k (A'.length:Int) a b) (decide (nm A2=nm B2))
 |[],A',B2,B',h1,h2,hAB=>by
  have hq:B2=[]:=by
   have:B2.length=0:=by rw[h1,h2] at hlen;simp at hlen;omega
   exact List.eq_nil_of_length_eq_zero this
  subst hq
  refine Evt.step (Evt.of_all fun k=>?_)
  rw[dn_Same.l0,if_neg (nltL h1)]
  rfl
 |ra::A2,A',B2,B',h1,h2,hAB=>by
  cases B2 with
  |nil=>rw[h1,h2] at hlen;simp at hlen;omega
  |cons rb B2=>
   have hlb:(A'.length:Int)<(b.length:Int):=by rw[hAB];exact ltL h2
   have hrb:rd_L2 b (A'.length:Int)=rb:=by rw[hAB];exact rdL h2
   have hx:wrap64 ((A'.length:Int)+1)=((A'++[ra]).length:Int):=nxL A' ra (by have:=ha.1;rw[h1] at this;simp at this;omega)
   have ih:=dsame_l0 ha hlen A2 (A'++[ra]) B2 (B'++[rb]) (by rw[h1];simp) (by rw[h2];simp) (by simp[hAB])
   have hst:∀ k,dn_Same.l0 (k+1) (A'.length:Int) a b=(dn_Same_1.f k ra rb).bind fun t18=>(if t18=true then((dn_Same.l0 k ((A'++[ra]).length:Int) a b)) else(some false)):=by
    intro k
    rw[dn_Same.l0,if_pos (ltL h1),if_pos (Int.natCast_nonneg A'.length),if_pos hlb,rdL h1,hrb,hx]
   refine Evt.step (Evt.of_eq (Evt.bind (dsame1_ev (ha.2 ra (by rw[h1];simp)).1) ?_) hst)
   by_cases hl:ra.map ofS=rb.map ofS
   ·refine Evt.ifp (decide_eq_true hl) (ih.val ?_)
    rw[Bool.eq_iff_iff,decide_eq_true_iff,decide_eq_true_iff]
    simp[nm,hl]
   ·refine Evt.ifn (by rw[decide_eq_false hl];simp) ((Evt.now _).val ?_)
    have: ¬ (nm (ra::A2)=nm (rb::B2)):=fun e=>hl (List.cons.inj e).1
    exact(decide_eq_false this).symm
theorem dsame_ev (a b:List (List S53)) (ha:few a):Evt (fun k=>dn_Same.f k a b) (sm a b):=by
 by_cases h:a.length=b.length
 ·exact Evt.of_eq (dsame_l0 ha h a [] b [] rfl rfl rfl) fun k=>by simp only[dn_Same.f,if_pos (show(a.length:Int)=(b.length:Int) by omega)];rfl
 ·refine(Evt.of_all fun k=>?_).val (show false=_ from(decide_eq_false (fun e=>h (by rw[nm_inj e]))).symm)
  simp only[dn_Same.f,if_neg (show ¬ (a.length:Int)=(b.length:Int) by omega)]
end Go.Proofs.Ytapinanmmhdpcaa.DnA
