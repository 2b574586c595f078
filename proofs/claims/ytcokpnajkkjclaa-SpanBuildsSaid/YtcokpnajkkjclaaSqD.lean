import Derived.Test.YtcokpnajkkjclaaSqA
import Derived.Test.YtcokpnajkkjclaaGM4
import Derived.Test.YtcokpnajkkjclaaGAF16
import Derived.Test.YtcokpnajkkjclaaGM4
/- Plain law of SpanBuilds. -/
namespace Go.Proofs.Ytcokpnajkkjclaa.SpA
open Go Go.RowKit Go.Proofs.Ytcokpnajkkjclaa.GA Go.Proofs.Ytcokpnajkkjclaa.PuE Go.Proofs.YtcokpnajkkjclaaW.PrintWords Go.Proofs.YtcokpnajkkjclaaW.PrintLast Go.Proofs.YtcokpnajkkjclaaW.PrintMore
set_option linter.unusedVariables false
set_option linter.unusedSimpArgs false
theorem awakeB:Evt (fun k=>toponymlaw02_awake.f k) true:=Evt.mono_ (k:=60) toponymlaw02_awake.mono (by decide+kernel)
theorem last_ev (l:List S37) (hn:l.length≤200) (r:Int):∀ n,n≤l.length→Evt (fun k=>toponymref02_Last.l0 k ((n:Int) - 1) r l) (back.look r 0 (back.seq l n)):=by
 intro n
 induction n with
 |zero=>
  intro _
  refine Evt.step ?_
  simp only[toponymref02_Last.l0]
  exact Evt.ifn (by omega) (Evt.now _)
 |succ n ih=>
  intro hle
  have e0:(((n+1:Nat):Int) - 1)=(n:Int):=by omega
  have e1:wrap64 ((n:Int) - 1)=(n:Int) - 1:=w64 _ (by omega)
  have hgo:=ih (by omega)
  have e:back.seq l (n+1)=((n:Int),A l n)::back.seq l n:=rfl
  rw[e0,e]
  unfold back.look
  refine Evt.step ?_
  simp only[toponymref02_Last.l0,rdA,e1]
  clear e1
  refine Evt.ifp (by omega) (Evt.ifp (by omega) (Evt.ifp (by omega) ?_))
  by_cases h0:(A l n).f0≤r
  ·by_cases h1:r≤(A l n).f1
   ·rw[if_pos (by simp[back.hit,h0,h1])]
    exact Evt.ifp h0 (Evt.ifp h1 (Evt.now _))
   ·rw[if_neg (by simp[back.hit,h1])]
    exact Evt.ifp h0 (Evt.ifn h1 hgo)
  ·rw[if_neg (by simp[back.hit,h0])]
   exact Evt.ifn h0 hgo
theorem last_has (l:List S37) (hn:l.length≤200) (r:Int):Evt (fun k=>toponymref02_Last.f k l r) (has l r):=by
 unfold toponymref02_Last.f
 have e1:wrap64 ((l.length:Int) - 1)=(l.length:Int) - 1:=w64 _ (by omega)
 rw[e1]
 exact last_ev l hn r l.length (Nat.le_refl _)
/-- The next edge. -/
theorem next_ev (l:List S37) (hn:l.length≤200) (hg:∀ i,i<l.length→good (A l i)) (x:Int) (hx:0≤x∧x<1114112):∀ (m i:Nat) (b:Int),m=l.length - i→i≤l.length→x<b∧b≤1114112→
  (∀ j,j<i→((A l j).f0>x→b≤(A l j).f0)∧((A l j).f1≥x→b≤(A l j).f1+1))→
  ∃ y,x<y∧y≤1114112∧(∀ j,j<l.length→((A l j).f0>x→y≤(A l j).f0)∧((A l j).f1≥x→y≤(A l j).f1+1))∧Evt (fun k=>toponymref02_next.l0 k b i x l) y:=by
 intro m
 induction m with
 |zero=>
  intro i b hm hi hb hp
  refine⟨b,hb.1,hb.2,fun j hj=>hp j (by omega),Evt.step ?_⟩
  simp only[toponymref02_next.l0]
  exact Evt.ifn (by omega) (Evt.now _)
 |succ m ih=>
  intro i b hm hi hb hp
  have e1:wrap64 ((i:Int)+1)=((i+1:Nat):Int):=by rw[w64 _ (by omega)];omega
  obtain⟨g0,g1,g2⟩:=hg i (by omega)
  have e2:wrap32 ((A l i).f1+1)=(A l i).f1+1:=w32 _ (by omega)
  have step:∀ b2:Int,x<b2→b2≤b→((A l i).f0>x→b2≤(A l i).f0)→((A l i).f1≥x→b2≤(A l i).f1+1)→
    ∃ y,x<y∧y≤1114112∧(∀ j,j<l.length→((A l j).f0>x→y≤(A l j).f0)∧((A l j).f1≥x→y≤(A l j).f1+1))∧Evt (fun k=>toponymref02_next.l0 k b2 ((i+1:Nat):Int) x l) y:=by
   intro b2 q1 q2 q3 q4
   refine ih (i+1) b2 (by omega) (by omega) ⟨q1,by omega⟩ (fun j hj=>?_)
   by_cases e:j=i
   ·subst e;exact⟨q3,q4⟩
   ·have:=hp j (by omega)
    exact⟨fun h=>by have:=this.1 h;omega,fun h=>by have:=this.2 h;omega⟩
  have go:∀ b2:Int,(∃ y,x<y∧y≤1114112∧(∀ j,j<l.length→((A l j).f0>x→y≤(A l j).f0)∧((A l j).f1≥x→y≤(A l j).f1+1))∧Evt (fun k=>toponymref02_next.l0 k b2 ((i+1:Nat):Int) x l) y)→
    (∀ y,Evt (fun k=>toponymref02_next.l0 k b2 ((i+1:Nat):Int) x l) y→Evt (fun k=>toponymref02_next.l0 k b i x l) y)→
    ∃ y,x<y∧y≤1114112∧(∀ j,j<l.length→((A l j).f0>x→y≤(A l j).f0)∧((A l j).f1≥x→y≤(A l j).f1+1))∧Evt (fun k=>toponymref02_next.l0 k b i x l) y:=by
   rintro b2 ⟨y,h1,h2,h3,h4⟩ hf
   exact⟨y,h1,h2,h3,hf y h4⟩
  have V:=Veil.mk (And.intro e1 e2)
  clear e1 e2
  by_cases c0:(A l i).f0>x
  ·by_cases c1:(A l i).f0<b
   ·refine go (A l i).f0 (step _ (by omega) (by omega) (fun _=>Int.le_refl _) (fun _=>by omega)) (fun y hy=>?_)
    refine Evt.step ?_
    simp only[toponymref02_next.l0,rdA,V.out.1,V.out.2]
    refine Evt.ifp (by omega) (Evt.ifp (by omega) (Evt.ifp c0 (Evt.ifp c1 (Evt.ifp (by omega) (Evt.ifn (by omega) hy)))))
   ·by_cases c3:(A l i).f1+1<b
    ·omega
    ·refine go b (step _ hb.1 (Int.le_refl _) (fun _=>by omega) (fun _=>by omega)) (fun y hy=>?_)
     refine Evt.step ?_
     simp only[toponymref02_next.l0,rdA,V.out.1,V.out.2]
     exact Evt.ifp (by omega) (Evt.ifp (by omega) (Evt.ifp c0 (Evt.ifn c1 (Evt.ifp (by omega) (Evt.ifn c3 hy)))))
  ·by_cases c2:(A l i).f1≥x
   ·by_cases c3:(A l i).f1+1<b
    ·refine go ((A l i).f1+1) (step _ (by omega) (by omega) (fun h=>absurd h c0) (fun _=>Int.le_refl _)) (fun y hy=>?_)
     refine Evt.step ?_
     simp only[toponymref02_next.l0,rdA,V.out.1,V.out.2]
     exact Evt.ifp (by omega) (Evt.ifp (by omega) (Evt.ifn c0 (Evt.ifp c2 (Evt.ifp c3 hy))))
    ·refine go b (step _ hb.1 (Int.le_refl _) (fun h=>absurd h c0) (fun _=>by omega)) (fun y hy=>?_)
     refine Evt.step ?_
     simp only[toponymref02_next.l0,rdA,V.out.1,V.out.2]
     exact Evt.ifp (by omega) (Evt.ifp (by omega) (Evt.ifn c0 (Evt.ifp c2 (Evt.ifn c3 hy))))
   ·refine go b (step _ hb.1 (Int.le_refl _) (fun h=>absurd h c0) (fun h=>absurd h c2)) (fun y hy=>?_)
    refine Evt.step ?_
    simp only[toponymref02_next.l0,rdA,V.out.1,V.out.2]
    exact Evt.ifp (by omega) (Evt.ifp (by omega) (Evt.ifn c0 (Evt.ifn c2 hy)))
theorem take_set (out:List S37) (v:S37) (h:0<out.length):List.take (out.length - 1) out++[v]=out.set (out.length - 1) v:=by
 apply List.ext_getElem?
 intro j
 rw[List.getElem?_set]
 by_cases e:out.length - 1=j
 ·subst e
  rw[if_pos rfl,if_pos (by omega),List.getElem?_append_right (by simp)]
  simp
 ·rw[if_neg e]
  by_cases e2:j<out.length - 1
  ·rw[List.getElem?_append_left (by simp;omega),List.getElem?_take,if_pos e2]
  ·rw[List.getElem?_eq_none (by simp;omega),List.getElem?_eq_none (by omega)]
theorem ref_l1 (l:List S37) (hn:l.length≤200) (hg:∀ i,i<l.length→good (A l i)):∀ (m:Nat) (x:Int) (out:List S37),(1114112 - x).toNat≤m→0≤x→x≤1114112→(out.length:Int)≤x→Inv l out x→
  ∃ t,tab t∧(∀ r,At t r (has l r))∧Evt (fun k=>toponymref02_Build.l1 k out x l) (t,0):=by
 have fin:∀ (x:Int) (out:List S37),x=1114112→Inv l out x→∃ t,tab t∧(∀ r,At t r (has l r))∧Evt (fun k=>toponymref02_Build.l1 k out x l) (t,0):=by
  intro x out hx I
  refine⟨out,I.t,fun r=>?_,Evt.step ?_⟩
  ·by_cases hr:r<x
   ·exact I.a r hr
   ·have h0:has l r=0:=has_none l r fun j hj hh=>by
     have:=(hg j hj).2.2
     omega
    rw[h0]
    refine .inr ⟨fun j hj hh=>?_,rfl⟩
    have:=I.b j hj
    omega
  ·simp only[toponymref02_Build.l1]
   exact Evt.ifn (by omega) (Evt.now _)
 intro m
 induction m with
 |zero=>
  intro x out hm h0 h1 ho I
  exact fin x out (by omega) I
 |succ m ih=>
  intro x out hm h0 h1 ho I
  by_cases hx:x=1114112
  ·exact fin x out hx I
  obtain⟨y,y1,y2,y3,hN⟩:=next_ev l hn hg x ⟨h0,by omega⟩ _ 0 1114112 rfl (by omega) ⟨by omega,Int.le_refl _⟩ (fun j hj=>absurd hj (by omega))
  have hN':Evt (fun k=>toponymref02_next.f k l x) y:=by
   unfold toponymref02_next.f
   exact hN
  have hL:=last_has l hn x
  have hcst:∀ r,x≤r→r<y→has l r=has l x:=fun r r1 r2=>has_const l x r fun j hj=>by
   have:=y3 j hj
   constructor
   ·rintro⟨a1,a2⟩
    have:=this.2 a2
    exact⟨by omega,by omega⟩
   ·rintro⟨a1,a2⟩
    refine⟨?_,by omega⟩
    by_cases hh:(A l j).f0>x
    ·have:=this.1 hh
     omega
    ·omega
  have e2:wrap32 (y - 1)=y - 1:=w32 _ (by omega)
  have e5:wrap32 (x - 1)=x - 1:=w32 _ (by omega)
  have V:=Veil.mk (And.intro e2 e5)
  clear e2 e5
  by_cases hz:has l x=0
  ·obtain⟨t,t1,t2,t3⟩:=ih y out (by omega) (by omega) y2 (by omega) (inv_skip I y1 hcst hz)
   refine⟨t,t1,t2,Evt.step ?_⟩
   simp only[toponymref02_Build.l1]
   exact Evt.ifp (by omega) (Evt.bind hN' (Evt.bind hL (Evt.ifp hz t3)))
  ·by_cases hlen:out.length=0
   ·have he: ¬ ext out x (has l x):=fun hh=>absurd hh.1 (by omega)
    obtain⟨t,t1,t2,t3⟩:=ih y _ (by omega) (by omega) y2 (by simp;omega) (inv_app I h0 y1 y2 hcst hz he)
    refine⟨t,t1,t2,Evt.step ?_⟩
    simp only[toponymref02_Build.l1]
    refine Evt.ifp (by omega) (Evt.bind hN' (Evt.bind hL (Evt.ifn hz (Evt.ifn (by omega) (Evt.ifp (by omega) (Evt.bind (Evt.now _) ?_))))))
    rw[V.out.1]
    exact t3
   ·have e3:wrap64 ((out.length:Int) - 1)=((out.length - 1:Nat):Int):=by rw[w64 _ (by omega)];omega
    have V2:=Veil.mk e3
    clear e3
    by_cases he:ext out x (has l x)
    ·obtain⟨t,t1,t2,t3⟩:=ih y _ (by omega) (by omega) y2 (by rw[List.length_set];omega) (inv_ext I y1 y2 hcst he)
     refine⟨t,t1,t2,Evt.step ?_⟩
     simp only[toponymref02_Build.l1,V.out.2,V2.out,rdA,So.nat_nat]
     refine Evt.ifp (by omega) (Evt.bind hN' (Evt.bind hL ?_))
     rw[V.out.1]
     refine Evt.ifn hz (Evt.ifp (by omega) (Evt.ifp (by omega) (Evt.ifp (by omega) (Evt.ifp he.2.1 (Evt.ifp (by have:=he.2.2;omega) (Evt.ifp (by omega) (Evt.bind (Evt.now _) ?_)))))))
     have hsm:=ho
     refine Evt.ifp (by simp;omega) (Evt.bind (Evt.now _) (Evt.ifp (by simp;omega) (Evt.bind (Evt.now _) ?_)))
     rw[List.nil_append,take_set out _ (by omega)]
     rw[he.2.1] at t3
     exact t3
    ·obtain⟨t,t1,t2,t3⟩:=ih y _ (by omega) (by omega) y2 (by simp;omega) (inv_app I h0 y1 y2 hcst hz he)
     refine⟨t,t1,t2,Evt.step ?_⟩
     simp only[toponymref02_Build.l1,V.out.2,V2.out,rdA,So.nat_nat]
     refine Evt.ifp (by omega) (Evt.bind hN' (Evt.bind hL ?_))
     rw[V.out.1]
     refine Evt.ifn hz (Evt.ifp (by omega) (Evt.ifp (by omega) (Evt.ifp (by omega) ?_)))
     by_cases q1:(A out (out.length - 1)).f2=has l x
     ·by_cases q2:(A out (out.length - 1)).f1=x - 1
      ·exact absurd ⟨by omega,q1,by omega⟩ he
      ·exact Evt.ifp q1 (Evt.ifn q2 (Evt.ifp (by omega) (Evt.bind (Evt.now _) t3)))
     ·exact Evt.ifn q1 (Evt.ifp (by omega) (Evt.bind (Evt.now _) t3))
theorem ref_l0 (l:List S37) (hn:l.length≤200) (v:List S37 × Int) (hv:(∀ i,i<l.length→good (A l i))→Evt (fun k=>toponymref02_Build.l1 k ([]:List S37) 0 l) v) (hb:(¬ ∀ i,i<l.length→good (A l i))→v=([],20)):∀ m i,m=l.length - i→i≤l.length→(∀ j,j<i→good (A l j))→
  Evt (fun k=>toponymref02_Build.l0 k i l) v:=by
 intro m
 induction m with
 |zero=>
  intro i hm hi hp
  refine Evt.step ?_
  simp only[toponymref02_Build.l0]
  exact Evt.ifn (by omega) (hv fun j hj=>hp j (by omega))
 |succ m ih=>
  intro i hm hi hp
  have e1:wrap64 ((i:Int)+1)=((i+1:Nat):Int):=by rw[w64 _ (by omega)];omega
  refine Evt.step ?_
  simp only[toponymref02_Build.l0,rdA,e1]
  clear e1
  refine Evt.ifp (by omega) (Evt.ifp (by omega) (Evt.bind (Evt.of_all fun k=>may_ref _) ?_))
  by_cases hg:good (A l i)
  ·exact Evt.ifp (by simp[hg]) (ih (i+1) (by omega) (by omega) fun j hj=>by
    by_cases e:j=i
    ·subst e;exact hg
    ·exact hp j (by omega))
  ·rw[hb fun hh=>hg (hh i (by omega))]
   exact Evt.ifn (by simp[hg]) (Evt.now _)
theorem ref_build (l:List S37):(∃ t,(l.length≤200∧∀ i,i<l.length→good (A l i))∧tab t∧(∀ r,At t r (has l r))∧Evt (fun k=>toponymref02_Build.f k l) (t,0))∨((¬ (l.length≤200∧∀ i,i<l.length→good (A l i)))∧Evt (fun k=>toponymref02_Build.f k l) ([],20)):=by
 unfold toponymref02_Build.f
 by_cases hn:l.length≤200
 ·by_cases hg:∀ i,i<l.length→good (A l i)
  ·obtain⟨t,t1,t2,t3⟩:=ref_l1 l hn hg _ 0 [] (Nat.le_refl _) (Int.le_refl _) (by omega) (by simp) (inv_nil l 0 fun i hi=>(hg i hi).1)
   exact .inl ⟨t,⟨hn,hg⟩,t1,t2,Evt.ifn (by omega) (ref_l0 l hn _ (fun _=>t3) (fun hh=>absurd hg hh) _ 0 rfl (by omega) (fun j hj=>absurd hj (by omega)))⟩
  ·exact .inr ⟨fun hh=>hg hh.2,Evt.ifn (by omega) (ref_l0 l hn _ (fun hh=>absurd hh hg) (fun _=>rfl) _ 0 rfl (by omega) (fun j hj=>absurd hj (by omega)))⟩
 ·exact .inr ⟨fun hh=>hn hh.1,Evt.ifp (by omega) (Evt.now _)⟩
theorem spanBuilds (l:List S37) {p0:Prop} (_:p0):∃ k,toponymlaw02_SpanBuilds.f k l=some true:=by
 refine Evt.get (f:=fun k=>toponymlaw02_SpanBuilds.f k l) ?_
 unfold toponymlaw02_SpanBuilds.f
 have ha:Evt (fun k=>(toponymlaw02_awake.f k).bind fun t=>some t) true:=Evt.bind awakeB (Evt.now _)
 by_cases hl:(l.length:Int)>700
 ·exact Evt.ifp hl ha
 refine Evt.ifn hl ?_
 rcases build l with⟨t,hn,hg,⟨ht,hlen,hA⟩,hE⟩|⟨hno,hE⟩
 ·rcases ref_build l with⟨u,_,hu,hAu,hF⟩|⟨hno,_⟩
  ·obtain⟨c,d1,d2⟩:=same_ev t u (by omega)
   exact Evt.bind hE (Evt.bind hF (Evt.bind d2 (Evt.ifp (d1.2 (built_one ht hu hA hAu)) (Evt.ifp rfl ha))))
  ·exact absurd ⟨hn,hg⟩ hno
 ·rcases ref_build l with⟨u,hh,_⟩|⟨_,hF⟩
  ·exact absurd hh hno
  ·obtain⟨c,d1,d2⟩:=same_ev [] [] (by simp)
   exact Evt.bind hE (Evt.bind hF (Evt.bind d2 (Evt.ifp (d1.2 ⟨rfl,fun i hi=>absurd hi (by simp)⟩) (Evt.ifp rfl ha))))
end Go.Proofs.Ytcokpnajkkjclaa.SpA
