import Derived.Test.YtcjafemnkhifmaaPxD
import Derived.Test.YtcjafemnkhifmaaGAF4
/- Plain law of AttrsTrees. -/
namespace Go.Proofs.Ytcjafemnkhifmaa.PxF
open Go Go.RowKit Go.Proofs.Ytcjafemnkhifmaa.GA Go.Proofs.Ytcjafemnkhifmaa.PuE Go.Proofs.Ytcjafemnkhifmaa.PxA Go.Proofs.Ytcjafemnkhifmaa.PxB Go.Proofs.Ytcjafemnkhifmaa.PxC Go.Proofs.Ytcjafemnkhifmaa.PxD Go.Proofs.YtcjafemnkhifmaaW.PrintWords Go.Proofs.YtcjafemnkhifmaaW.PrintLast Go.Proofs.YtcjafemnkhifmaaW.PrintMore
set_option linter.unusedVariables false
set_option linter.unusedSimpArgs false
theorem attrsTrees (L:List S26) (a:ByteArray) (names:List ByteArray) {p0 p1 p2:Prop} (_:p0) (_:p1) (_:p2):∃ k,toponymlaw20_AttrsTrees.f k L a names=some true:=by
 refine Evt.get (f:=fun k=>toponymlaw20_AttrsTrees.f k L a names) ?_
 obtain⟨b,hb,hf⟩:=few_ev L
 refine Evt.bind hf ?_
 cases b with
 |false=>exact Evt.ifn (by simp) (Evt.bind awake_ev (Evt.now _))
 |true=>
  refine Evt.ifp rfl ?_
  have hL:=hb rfl
  by_cases hn:(names.length:Int)>30
  ·exact Evt.ifp hn (Evt.bind awake_ev (Evt.now _))
  refine Evt.ifn hn ?_
  have hn':names.length≤1000:=by omega
  obtain⟨d,l,m,h1,h2,h3,h4,h5,h6,hl,hm⟩:∃ (d:ByteArray→Bool) (l m:List ByteArray),(∀ b,Evt (fun k=>attrs_Is.f k L a b) (d b))∧(∀ b,Evt (fun k=>toponymref20_Is.f k L a b) (d b))∧Evt (fun k=>attrs_Line.f k L a) l∧Evt (fun k=>toponymref20_Line.f k L a) l∧Evt (fun k=>attrs_Below.f k L names) m∧Evt (fun k=>toponymref20_Below.f k L names) m∧l.length≤1000∧m.length≤1000:=by
   by_cases h:OKL L
   ·refine⟨_,_,_,fun b=>(is_ev L hL a b).1 h,fun b=>(refI_ev L hL a b).1 h,(Line_ev L hL a).1 h,(refL_ev L hL a).1 h,(Below_ev L hL names hn').1 h,(refB_ev L hL names hn').1 h,?_,?_⟩
    ·have:(ln' L a).length≤L.length+1:=up_len L _ _
     rw[List.length_map];omega
    ·have:=List.length_filter_le (bw L names) L
     unfold below
     rw[List.length_map];omega
   ·exact⟨_,_,_,fun b=>(is_ev L hL a b).2 h,fun b=>(refI_ev L hL a b).2 h,(Line_ev L hL a).2 h,(refL_ev L hL a).2 h,(Below_ev L hL names hn').2 h,(refB_ev L hL names hn').2 h,by simp,by simp⟩
  have key:∀ (r p:List ByteArray),names=p++r→Evt (fun k=>toponymlaw20_AttrsTrees.l0 k (p.length:Int) a L names) true:=by
   intro r
   induction r with
   |nil=>
    intro p hp
    refine Evt.step ?_
    have hc: ¬ ((p.length:Int)<(names.length:Int)):=by rw[hp];exact nlt_end p
    simp only[toponymlaw20_AttrsTrees.l0,if_neg hc]
    refine Evt.bind h3 (Evt.bind h4 (Evt.bind (same_ev l hl) (Evt.ifp rfl (Evt.bind h5 (Evt.bind h6 (Evt.bind (same_ev m hm) (Evt.ifp rfl (Evt.bind awake_ev (Evt.now _)))))))))
   |cons y r ih=>
    intro p hp
    have hc:(p.length:Int)<(names.length:Int):=by rw[hp];exact lt_mid p y r
    have hrd:rdOf ByteArray.empty names (p.length:Int)=y:=by rw[hp];exact rdO p y r
    have hnx:wrap64 ((p.length:Int)+1)=((p++[y]).length:Int):=next_len p y r (by rw[← hp];omega)
    refine Evt.step ?_
    simp only[toponymlaw20_AttrsTrees.l0,if_pos hc,if_pos (Int.natCast_nonneg p.length),hrd,hnx]
    exact Evt.bind (h1 y) (Evt.bind (h2 y) (Evt.ifn (by simp) (ih (p++[y]) (by rw[hp];simp))))
  exact key names [] rfl
end Go.Proofs.Ytcjafemnkhifmaa.PxF
