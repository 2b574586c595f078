import Derived.Test.YtcokpnajkkjclaaPuEv
import Derived.Test.YtcokpnajkkjclaaGM1
import Derived.Test.YtcokpnajkkjclaaGM1
import Derived.Test.YtcokpnajkkjclaaGM1
import Derived.Test.YtcokpnajkkjclaaGM1
import Derived.Test.YtcokpnajkkjclaaGM1
import Derived.Test.YtcokpnajkkjclaaGM1
import Derived.Test.YtcokpnajkkjclaaGM1
/- Plain law of SpanFinds, first part: both checks. -/
namespace Go.Proofs.Ytcokpnajkkjclaa.SpA
open Go Go.RowKit Go.Proofs.Ytcokpnajkkjclaa.GA Go.Proofs.Ytcokpnajkkjclaa.PuE Go.Proofs.YtcokpnajkkjclaaW.PrintWords Go.Proofs.YtcokpnajkkjclaaW.PrintLast Go.Proofs.YtcokpnajkkjclaaW.PrintMore
set_option linter.unusedVariables false
set_option linter.unusedSimpArgs false
def A (l:List S37) (i:Nat):S37:=rd_T37 l (i:Int)
theorem rdA (l:List S37) (i:Nat):rd_T37 l (i:Int)=A l i:=rfl
/-- A span that may be. -/
def good (x:S37):Prop:=0≤x.f0∧x.f0≤x.f1∧x.f1≤1114111
instance (x:S37):Decidable (good x):=by unfold good;infer_instance
theorem may_span (x:S37):span_piece_may.f x.f0 x.f1 x.f2=some (decide (good x)):=by
 unfold span_piece_may.f good
 by_cases h1:0≤x.f0 <;>by_cases h2:x.f0≤x.f1 <;>simp[h1,h2]
theorem may_ref (x:S37):toponymref02_may.f x.f0 x.f1 x.f2=some (decide (good x)):=by
 unfold toponymref02_may.f good
 by_cases h1:0≤x.f0 <;>by_cases h2:x.f0≤x.f1 <;>simp[h1,h2]
/-- It may stand behind the other one. -/
def behind (p x:S37):Prop:=p.f1<x.f0∧ ¬ (p.f1+1=x.f0∧p.f2=x.f2)
theorem w32 (x:Int) (h: -2147483648≤x∧x≤2147483647):wrap32 x=x:=IntWalk.wrap32_in x (by omega)
/-- Both checks, from one place on. -/
theorem check (l:List S37) (hn:l.length≤500):∀ m i,m=l.length - i→i≤l.length→(0<i→good (A l (i - 1)))→
  ∃ c,(c=0∨c=20)∧Evt (fun k=>span_Check.l0 k i l) c∧Evt (fun k=>toponymref02_Check.l0 k i l) c∧(c=0→∀ j,i≤j→j<l.length→good (A l j)∧(A l j).f2≠0∧(0<j→behind (A l (j - 1)) (A l j))):=by
 intro m
 induction m with
 |zero=>
  intro i hm hi _
  refine⟨0,.inl rfl,?_,?_,fun _ j h1 h2=>absurd h2 (by omega)⟩
  ·refine Evt.step ?_
   simp only[span_Check.l0,rdA]
   exact Evt.ifn (by omega) (Evt.now _)
  ·refine Evt.step ?_
   simp only[toponymref02_Check.l0,rdA]
   exact Evt.ifn (by omega) (Evt.now _)
 |succ m ih=>
  intro i hm hi hp
  have hlt:i<l.length:=by omega
  have e1:wrap64 ((i:Int)+1)=((i+1:Nat):Int):=by rw[w64 _ (by omega)];omega
  by_cases hg:good (A l i)
  ·by_cases h0:(A l i).f2=0
   ·refine⟨20,.inr rfl,?_,?_,fun h=>absurd h (by decide)⟩
    ·refine Evt.step ?_
     simp only[span_Check.l0,rdA]
     refine Evt.ifp (by omega) (Evt.ifp (by omega) (Evt.bind (v:=true) (Evt.of_all fun k=>by rw[may_span];simpa using hg) ?_))
     exact Evt.ifp rfl (Evt.ifp h0 (Evt.now _))
    ·refine Evt.step ?_
     simp only[toponymref02_Check.l0,rdA]
     refine Evt.ifp (by omega) (Evt.ifp (by omega) (Evt.bind (v:=true) (Evt.of_all fun k=>by rw[may_ref];simpa using hg) ?_))
     exact Evt.ifp rfl (Evt.ifp h0 (Evt.now _))
   ·by_cases hi0:i=0
    ·obtain⟨c,hc,hs,hr,hall⟩:=ih (i+1) (by omega) (by omega) (fun _=>by simpa using hg)
     refine⟨c,hc,?_,?_,fun h j h1 h2=>?_⟩
     ·refine Evt.step ?_
      simp only[span_Check.l0,rdA]
      refine Evt.ifp (by omega) (Evt.ifp (by omega) (Evt.bind (v:=true) (Evt.of_all fun k=>by rw[may_span];simpa using hg) ?_))
      refine Evt.ifp rfl (Evt.ifn h0 (Evt.ifn (by omega) ?_))
      rw[e1];exact hs
     ·refine Evt.step ?_
      simp only[toponymref02_Check.l0,rdA]
      refine Evt.ifp (by omega) (Evt.ifp (by omega) (Evt.bind (v:=true) (Evt.of_all fun k=>by rw[may_ref];simpa using hg) ?_))
      refine Evt.ifp rfl (Evt.ifn h0 (Evt.ifp (by omega) ?_))
      rw[e1];exact hr
     ·by_cases e:j=i
      ·subst e;exact⟨hg,h0,fun h=>absurd h (by omega)⟩
      ·exact hall h j (by omega) h2
    ·have hgp:=hp (by omega)
     have e2:wrap64 ((i:Int) - 1)=((i - 1:Nat):Int):=by rw[w64 _ (by omega)];omega
     obtain⟨p0,p1,p2⟩:=hgp
     obtain⟨q0,q1,q2⟩:=id hg
     have e3:wrap32 ((A l (i - 1)).f1+1)=(A l (i - 1)).f1+1:=w32 _ (by omega)
     have e4:wrap32 ((A l i).f0 - (A l (i - 1)).f1)=(A l i).f0 - (A l (i - 1)).f1:=w32 _ (by omega)
     by_cases hb:behind (A l (i - 1)) (A l i)
     ·obtain⟨c,hc,hs,hr,hall⟩:=ih (i+1) (by omega) (by omega) (fun _=>by simpa using hg)
      refine⟨c,hc,?_,?_,fun h j h1 h2=>?_⟩
      ·refine Evt.step ?_
       simp only[span_Check.l0,rdA,e2,e1]
       refine Evt.ifp (by omega) (Evt.ifp (by omega) (Evt.bind (v:=true) (Evt.of_all fun k=>by rw[may_span];simpa using hg) ?_))
       refine Evt.ifp rfl (Evt.ifn h0 (Evt.ifp (by omega) (Evt.ifp (by omega) (Evt.ifp (by omega) (Evt.ifn (by have:=hb.1;omega) ?_)))))
       rw[e3]
       by_cases h5:(A l (i - 1)).f1+1=(A l i).f0
       ·exact Evt.ifp h5 (Evt.ifn (fun h6=>hb.2 ⟨h5,h6⟩) hs)
       ·exact Evt.ifn h5 hs
      ·refine Evt.step ?_
       simp only[toponymref02_Check.l0,rdA,e2,e1]
       refine Evt.ifp (by omega) (Evt.ifp (by omega) (Evt.bind (v:=true) (Evt.of_all fun k=>by rw[may_ref];simpa using hg) ?_))
       rw[e4]
       refine Evt.ifp rfl (Evt.ifn h0 (Evt.ifn (by omega) (Evt.ifp (by omega) (Evt.ifp (by omega) (Evt.ifn (by have:=hb.1;omega) ?_)))))
       by_cases h5:(A l i).f0 - (A l (i - 1)).f1=1
       ·exact Evt.ifp h5 (Evt.ifn (fun h6=>hb.2 ⟨by omega,h6.symm⟩) hr)
       ·exact Evt.ifn h5 hr
      ·by_cases e:j=i
       ·subst e;exact⟨hg,h0,fun _=>hb⟩
       ·exact hall h j (by omega) h2
     ·refine⟨20,.inr rfl,?_,?_,fun h=>absurd h (by decide)⟩
      ·refine Evt.step ?_
       simp only[span_Check.l0,rdA,e2,e1]
       refine Evt.ifp (by omega) (Evt.ifp (by omega) (Evt.bind (v:=true) (Evt.of_all fun k=>by rw[may_span];simpa using hg) ?_))
       refine Evt.ifp rfl (Evt.ifn h0 (Evt.ifp (by omega) (Evt.ifp (by omega) (Evt.ifp (by omega) ?_))))
       by_cases h5:(A l (i - 1)).f1≥(A l i).f0
       ·exact Evt.ifp h5 (Evt.now _)
       ·refine Evt.ifn h5 ?_
        have h6:(A l (i - 1)).f1+1=(A l i).f0∧(A l (i - 1)).f2=(A l i).f2:=Classical.byContradiction fun h7=>hb ⟨by omega,h7⟩
        rw[e3]
        exact Evt.ifp h6.1 (Evt.ifp h6.2 (Evt.now _))
      ·refine Evt.step ?_
       simp only[toponymref02_Check.l0,rdA,e2,e1]
       refine Evt.ifp (by omega) (Evt.ifp (by omega) (Evt.bind (v:=true) (Evt.of_all fun k=>by rw[may_ref];simpa using hg) ?_))
       rw[e4]
       refine Evt.ifp rfl (Evt.ifn h0 (Evt.ifn (by omega) (Evt.ifp (by omega) (Evt.ifp (by omega) ?_))))
       by_cases h5:(A l i).f0 - (A l (i - 1)).f1<1
       ·exact Evt.ifp h5 (Evt.now _)
       ·refine Evt.ifn h5 ?_
        have h6:(A l (i - 1)).f1+1=(A l i).f0∧(A l (i - 1)).f2=(A l i).f2:=Classical.byContradiction fun h7=>hb ⟨by omega,h7⟩
        exact Evt.ifp (by omega) (Evt.ifp h6.2.symm (Evt.now _))
  ·refine⟨20,.inr rfl,?_,?_,fun h=>absurd h (by decide)⟩
   ·refine Evt.step ?_
    simp only[span_Check.l0,rdA]
    refine Evt.ifp (by omega) (Evt.ifp (by omega) (Evt.bind (v:=false) (Evt.of_all fun k=>by rw[may_span];simpa using hg) ?_))
    exact Evt.ifn (by simp) (Evt.now _)
   ·refine Evt.step ?_
    simp only[toponymref02_Check.l0,rdA]
    refine Evt.ifp (by omega) (Evt.ifp (by omega) (Evt.bind (v:=false) (Evt.of_all fun k=>by rw[may_ref];simpa using hg) ?_))
    exact Evt.ifn (by simp) (Evt.now _)
end Go.Proofs.Ytcokpnajkkjclaa.SpA
