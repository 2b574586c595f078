import Derived.Test.YtcjafemnkhifmaaPxC
import Derived.Test.YtcjafemnkhifmaaGM1
import Derived.Test.YtcjafemnkhifmaaGM1
import Derived.Test.YtcjafemnkhifmaaGM2
/- Plain laws of types: how few; texts held against each other; the answers that are asked each time. -/
namespace Go.Proofs.Ytcjafemnkhifmaa.PxD
open Go Go.RowKit Go.Proofs.Ytcjafemnkhifmaa.GA Go.Proofs.Ytcjafemnkhifmaa.PuE Go.Proofs.Ytcjafemnkhifmaa.PxA Go.Proofs.Ytcjafemnkhifmaa.PxB Go.Proofs.Ytcjafemnkhifmaa.PxC Go.Proofs.YtcjafemnkhifmaaW.PrintWords Go.Proofs.YtcjafemnkhifmaaW.PrintLast Go.Proofs.YtcjafemnkhifmaaW.PrintMore
set_option linter.unusedVariables false
set_option linter.unusedSimpArgs false
theorem few_ev (L:List S26):∃ b,(b=true→L.length≤40)∧Evt (fun k=>toponymlaw20_Few.f k L) b:=by
 by_cases hc:(L.length:Int)>40
 ·exact⟨false,by simp,Evt.ifp hc (Evt.now _)⟩
 ·have key:∀ (r p:List S26),L=p++r→∃ b,Evt (fun k=>toponymlaw20_Few.l0 k (p.length:Int) L) b:=by
   intro r
   induction r with
   |nil=>
    intro p hp
    refine⟨true,Evt.step ?_⟩
    have hc: ¬ ((p.length:Int)<(L.length:Int)):=by rw[hp];exact nlt_end p
    simp only[toponymlaw20_Few.l0,if_neg hc]
    exact Evt.now _
   |cons y r ih=>
    intro p hp
    have hc:(p.length:Int)<(L.length:Int):=by rw[hp];exact lt_mid p y r
    have hrd:rd_T26 L (p.length:Int)=y:=by rw[hp];exact rdt p y r
    have hnx:wrap64 ((p.length:Int)+1)=((p++[y]).length:Int):=next_len p y r (by rw[← hp];omega)
    obtain⟨b,hb⟩:=ih (p++[y]) (by rw[hp];simp)
    by_cases h0:(y.f0.size:Int)>1000
    ·refine⟨false,Evt.step ?_⟩
     simp only[toponymlaw20_Few.l0,if_pos hc,if_pos (Int.natCast_nonneg p.length),hrd]
     exact Evt.ifp h0 (Evt.now _)
    ·by_cases h1:(y.f1.size:Int)>1000
     ·refine⟨false,Evt.step ?_⟩
      simp only[toponymlaw20_Few.l0,if_pos hc,if_pos (Int.natCast_nonneg p.length),hrd]
      exact Evt.ifn h0 (Evt.ifp h1 (Evt.now _))
     ·refine⟨b,Evt.step ?_⟩
      simp only[toponymlaw20_Few.l0,if_pos hc,if_pos (Int.natCast_nonneg p.length),hrd,hnx]
      exact Evt.ifn h0 (Evt.ifn h1 hb)
  obtain⟨b,hb⟩:=key L [] rfl
  exact⟨b,fun _=>by omega,Evt.ifn hc hb⟩
theorem same_ev (l:List ByteArray) (hl:l.length≤1000):Evt (fun k=>toponymref16_SameTexts.f k l l) true:=by
 refine Evt.ifp rfl ?_
 have key:∀ (r p:List ByteArray),l=p++r→Evt (fun k=>toponymref16_SameTexts.l0 k (p.length:Int) l l) true:=by
  intro r
  induction r with
  |nil=>
   intro p hp
   refine Evt.step ?_
   have hc: ¬ ((p.length:Int)<(l.length:Int)):=by rw[hp];exact nlt_end p
   simp only[toponymref16_SameTexts.l0,if_neg hc]
   exact Evt.now _
  |cons y r ih=>
   intro p hp
   have hc:(p.length:Int)<(l.length:Int):=by rw[hp];exact lt_mid p y r
   have hrd:rdOf ByteArray.empty l (p.length:Int)=y:=by rw[hp];exact rdO p y r
   have hnx:wrap64 ((p.length:Int)+1)=((p++[y]).length:Int):=next_len p y r (by rw[← hp];omega)
   refine Evt.step ?_
   simp only[toponymref16_SameTexts.l0,if_pos hc,if_pos (Int.natCast_nonneg p.length),hrd,hnx]
   exact Evt.ifp (by simp) (ih (p++[y]) (by rw[hp];simp))
 exact key l [] rfl
theorem awake_ev:Evt (fun k=>toponymlaw20_awake.f k) true:=Evt.mono_ (k:=60) (fun k=>toponymlaw20_awake.mono k) (by decide+kernel)
end Go.Proofs.Ytcjafemnkhifmaa.PxD
