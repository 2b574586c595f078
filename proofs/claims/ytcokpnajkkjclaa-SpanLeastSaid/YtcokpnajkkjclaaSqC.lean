import Derived.Test.YtcokpnajkkjclaaSqA
import Derived.Test.YtcokpnajkkjclaaGM4
import Derived.Test.YtcokpnajkkjclaaGM4
/- Plain law of SpanLeast. -/
namespace Go.Proofs.Ytcokpnajkkjclaa.SpA
open Go Go.RowKit Go.Proofs.Ytcokpnajkkjclaa.GA Go.Proofs.Ytcokpnajkkjclaa.PuE Go.Proofs.YtcokpnajkkjclaaW.PrintWords Go.Proofs.YtcokpnajkkjclaaW.PrintLast Go.Proofs.YtcokpnajkkjclaaW.PrintMore
set_option linter.unusedVariables false
set_option linter.unusedSimpArgs false
theorem awakeM:Evt (fun k=>toponymlaw02_awake.f k) true:=Evt.mono_ (k:=60) toponymlaw02_awake.mono (by decide+kernel)
/-- A table is built to itself. -/
theorem build_tab (l m:List S37) (hn:l.length≤200) (ht:tab l) (hm:m.length=l.length) (hA:∀ j,j<l.length→A m j=A l (l.length - 1 - j)∨A m j=A l j) (hs:∀ i,i<l.length→∃ j,j<l.length∧A m j=A l i) (hs2:∀ j,j<l.length→∃ i,i<l.length∧A m j=A l i):
  ∃ t,same t l∧t.length≤400∧Evt (fun k=>span_Build.f k m) (t,0):=by
 rcases build m with⟨t,_,hg,⟨htt,hlen,hAt⟩,hE⟩|⟨hno,_⟩
 ·refine⟨t,built_one (l:=l) htt ht (fun r=>?_) (fun r=>has_at l r),hlen,hE⟩
  have h1:=has_at m r
  have h2:At l r (has m r):=by
   rcases h1 with⟨j,hj,a1,a2,a3⟩|⟨a1,a2⟩
   ·obtain⟨i,hi,e⟩:=hs2 j (by omega)
    rw[e] at a1 a2 a3
    exact .inl ⟨i,hi,a1,a2,a3⟩
   ·refine .inr ⟨fun i hi hh=>?_,a2⟩
    obtain⟨j,hj,e⟩:=hs i hi
    exact a1 j (by omega) (by rw[e];exact hh)
  rw[← At.uniq ht h2 (has_at l r)]
  exact hAt r
 ·exfalso
  refine hno ⟨by omega,fun j hj=>?_⟩
  obtain⟨i,hi,e⟩:=hs2 j (by omega)
  rw[e]
  exact(ht i hi).1
theorem turn_l0 (l:List S37) (hn:l.length≤200) (ht:tab l) (R:List S37→Prop) (hR:∀ m:List S37,m.length=l.length→(∀ j,j<l.length→A m j=A l (l.length - 1 - j))→Evt (fun k=>toponymlaw02_SpanLeast.l0 k m (-1) l) true):∀ (n:Nat) (m:List S37),n≤l.length→m.length=l.length - n→(∀ j,j<m.length→A m j=A l (l.length - 1 - j))→
  Evt (fun k=>toponymlaw02_SpanLeast.l0 k m ((n:Int) - 1) l) true:=by
 intro n
 induction n with
 |zero=>
  intro m hm hlen hA
  exact hR m (by omega) (fun j hj=>hA j (by omega))
 |succ n ih=>
  intro m hm hlen hA
  have e0:(((n+1:Nat):Int) - 1)=(n:Int):=by omega
  have e1:wrap64 ((n:Int) - 1)=(n:Int) - 1:=w64 _ (by omega)
  rw[e0]
  refine Evt.step ?_
  simp only[toponymlaw02_SpanLeast.l0,rdA,e1]
  clear e1
  refine Evt.ifp (by omega) (Evt.ifp (by omega) (Evt.ifp (by omega) (Evt.ifp (by omega) (Evt.bind (Evt.now _) ?_))))
  refine ih _ (by omega) (by rw[List.length_append];simp;omega) (fun j hj=>?_)
  rw[A_app]
  have hj':j<m.length+1:=by rw[List.length_append] at hj;simpa using hj
  by_cases e:j<m.length
  ·rw[if_pos e];exact hA j e
  ·rw[if_neg e,if_pos (by omega)]
   have:l.length - 1 - j=n:=by omega
   rw[this]
theorem spanLeast (l:List S37) {p0:Prop} (_:p0):∃ k,toponymlaw02_SpanLeast.f k l=some true:=by
 refine Evt.get (f:=fun k=>toponymlaw02_SpanLeast.f k l) ?_
 unfold toponymlaw02_SpanLeast.f
 have ha:Evt (fun k=>(toponymlaw02_awake.f k).bind fun t=>some t) true:=Evt.bind awakeM (Evt.now _)
 by_cases hl:(l.length:Int)>200
 ·exact Evt.ifp hl ha
 refine Evt.ifn hl ?_
 obtain⟨c,hc,hs,_,htb⟩:=checks l
 refine Evt.bind hs ?_
 rcases hc with rfl|rfl
 ·have ht:=(htb rfl).2
  have hn:l.length≤200:=by omega
  have e1:wrap64 ((l.length:Int) - 1)=(l.length:Int) - 1:=w64 _ (by omega)
  rw[e1]
  clear e1
  refine Evt.ifp rfl (turn_l0 l hn ht (fun _=>True) (fun m hm hA=>?_) l.length [] (Nat.le_refl _) (by simp) (fun j hj=>absurd hj (by simp)))
  obtain⟨t1,q1,q2,q3⟩:=build_tab l l hn ht rfl (fun j _=>.inr rfl) (fun i hi=>⟨i,hi,rfl⟩) (fun j hj=>⟨j,hj,rfl⟩)
  obtain⟨t2,r1,r2,r3⟩:=build_tab l m hn ht hm (fun j hj=>.inl (hA j hj)) (fun i hi=>⟨l.length - 1 - i,by omega,by rw[hA _ (by omega)];congr 1;omega⟩) (fun j hj=>⟨l.length - 1 - j,by omega,hA j hj⟩)
  obtain⟨c1,d1,d2⟩:=same_ev t1 l (by omega)
  obtain⟨c2,d3,d4⟩:=same_ev t2 l (by omega)
  refine Evt.step ?_
  simp only[toponymlaw02_SpanLeast.l0]
  refine Evt.ifn (by omega) (Evt.bind q3 (Evt.bind r3 (Evt.bind d2 (Evt.ifp (d1.2 q1) (Evt.bind d4 (Evt.ifp (d3.2 r1) (Evt.ifp rfl (Evt.ifp rfl ha))))))))
 ·exact Evt.ifn (by decide) ha
end Go.Proofs.Ytcokpnajkkjclaa.SpA
