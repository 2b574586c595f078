import Derived.Test.YtcokpnajkkjclaaSpA
/- Plain law of the span tables: what a table tells of a number; two tables whose edges agree are one. -/
namespace Go.Proofs.Ytcokpnajkkjclaa.SpA
open Go Go.RowKit Go.Proofs.Ytcokpnajkkjclaa.GA Go.Proofs.Ytcokpnajkkjclaa.PuE Go.Proofs.YtcokpnajkkjclaaW.PrintWords Go.Proofs.YtcokpnajkkjclaaW.PrintLast Go.Proofs.YtcokpnajkkjclaaW.PrintMore
set_option linter.unusedVariables false
set_option linter.unusedSimpArgs false
/-- Spans that are a table. -/
def tab (l:List S37):Prop:=∀ j,j<l.length→good (A l j)∧(A l j).f2≠0∧(0<j→behind (A l (j - 1)) (A l j))
theorem tab.rise {l:List S37} (h:tab l):∀ d i,i+(d+1)<l.length→(A l i).f1<(A l (i+(d+1))).f0:=by
 intro d
 induction d with
 |zero=>
  intro i hi
  have:=((h (i+1) hi).2.2 (by omega)).1
  simpa using this
 |succ d ih=>
  intro i hi
  have h1:=ih i (by omega)
  have h2:=(h (i+(d+1)) (by omega)).1.2.1
  have h3:=((h (i+(d+1+1)) hi).2.2 (by omega)).1
  have e:i+(d+1+1) - 1=i+(d+1):=by omega
  rw[e] at h3
  omega
theorem tab.lt {l:List S37} (h:tab l) {i j:Nat} (hij:i<j) (hj:j<l.length):(A l i).f1<(A l j).f0:=by
 obtain⟨d,rfl⟩:∃ d,j=i+(d+1):=⟨j - i - 1,by omega⟩
 exact h.rise d i hj
theorem tab.ends {l:List S37} (h:tab l) {i j:Nat} (hij:i≤j) (hj:j<l.length):(A l i).f0≤(A l j).f0∧(A l i).f1≤(A l j).f1:=by
 by_cases e:i=j
 ·subst e;exact⟨Int.le_refl _,Int.le_refl _⟩
 ·have h1:=h.lt (show i<j by omega) hj
  have h2:=(h i (by omega)).1.2.1
  have h3:=(h j hj).1.2.1
  exact⟨by omega,by omega⟩
/-- What spans have of a number. -/
def At (l:List S37) (r v:Int):Prop:=(∃ i,i<l.length∧(A l i).f0≤r∧r≤(A l i).f1∧v=(A l i).f2)∨((∀ i,i<l.length→ ¬ ((A l i).f0≤r∧r≤(A l i).f1))∧v=0)
theorem tab.one {l:List S37} (h:tab l) {i j:Nat} {r:Int} (hi:i<l.length) (hj:j<l.length) (h1:(A l i).f0≤r) (h2:r≤(A l i).f1) (h3:(A l j).f0≤r) (h4:r≤(A l j).f1):i=j:=by
 rcases Nat.lt_trichotomy i j with e|e|e
 ·have:=h.lt e hj;omega
 ·exact e
 ·have:=h.lt e hi;omega
theorem At.uniq {l:List S37} (h:tab l) {r v u:Int} (a:At l r v) (b:At l r u):v=u:=by
 rcases a with⟨i,hi,h1,h2,rfl⟩|⟨hn,rfl⟩ <;>rcases b with⟨j,hj,h3,h4,rfl⟩|⟨hm,rfl⟩
 ·rw[h.one hi hj h1 h2 h3 h4]
 ·exact absurd ⟨h1,h2⟩ (hm i hi)
 ·exact absurd ⟨h3,h4⟩ (hn j hj)
 ·rfl
/-- One edge of each span of the one is told alike by both. -/
def edge (a b:List S37) (i:Nat):Prop:=At b (A a i).f0 (A a i).f2∧At b (A a i).f1 (A a i).f2∧∃ v,At b ((A a i).f1+1) v∧At a ((A a i).f1+1) v
theorem head_le {a b:List S37} (ta:tab a) (tb:tab b) {i:Nat} (hi:i<a.length) (h:edge a b i) (hp:∀ j,j<i→A a j=A b j):i<b.length∧(A b i).f0≤(A a i).f0:=by
 rcases h.1 with⟨m,hm,h1,h2,h3⟩|⟨_,h0⟩
 ·by_cases e:m<i
  ·have h4:=ta.lt e hi
   rw[hp m e] at h4
   omega
  ·have:=(tb.ends (show i≤m by omega) hm).1
   exact⟨by omega,by omega⟩
 ·exact absurd h0 (ta i hi).2.1
theorem last_le {a b:List S37} (ta:tab a) (tb:tab b) {i:Nat} (hi:i<a.length) (hj:i<b.length) (h:edge a b i) (h0:(A a i).f0=(A b i).f0):(A a i).f2=(A b i).f2∧ ¬ (A a i).f1<(A b i).f1:=by
 have ga:=(ta i hi).1
 have gb:=(tb i hj).1
 have e:(A a i).f2=(A b i).f2:=At.uniq tb h.1 (.inl ⟨i,hj,by omega,by have:=gb.2.1;omega,rfl⟩)
 refine⟨e,fun hlt=>?_⟩
 obtain⟨v,hb,ha⟩:=h.2.2
 have hv:v=(A b i).f2:=At.uniq tb hb (.inl ⟨i,hj,by have:=ga.2.1;omega,by omega,rfl⟩)
 rcases ha with⟨m,hm,h1,h2,h3⟩|⟨_,h3⟩
 ·have hmi:i<m:=by
   refine Classical.byContradiction fun hn=>?_
   have:=(ta.ends (show m≤i by omega) hi).2
   omega
  have hb2:=(ta (i+1) (by omega)).2.2 (by omega)
  have e1:i+1 - 1=i:=by omega
  rw[e1] at hb2
  have g2:=(ta (i+1) (by omega)).1.2.1
  by_cases e2:m=i+1
  ·subst e2
   exact hb2.2 ⟨by have:=hb2.1;omega,by omega⟩
  ·have:=ta.lt (show i+1<m by omega) hm
   have:=hb2.1
   omega
 ·exact(tb i hj).2.1 (by omega)
theorem one_of_fields {x y:S37} (h0:x.f0=y.f0) (h1:x.f1=y.f1) (h2:x.f2=y.f2):x=y:=by
 cases x;cases y;simp only at h0 h1 h2;subst h0 h1 h2;rfl
theorem same_of_edges {a b:List S37} (ta:tab a) (tb:tab b) (h1:∀ i,i<a.length→edge a b i) (h2:∀ i,i<b.length→edge b a i):a.length=b.length∧∀ i,i<a.length→A a i=A b i:=by
 have key:∀ n i,i<n→(i<a.length↔i<b.length)∧(i<a.length→A a i=A b i):=by
  intro n
  induction n with
  |zero=>intro i hi;exact absurd hi (by omega)
  |succ n ih=>
   intro i hi
   by_cases hn:i<n
   ·exact ih i hn
   ·have hp:∀ j,j<i→j<a.length→A a j=A b j:=fun j hj=>(ih j (by omega)).2
    have hla:i<a.length→i<b.length∧(A b i).f0≤(A a i).f0:=fun h=>head_le ta tb h (h1 i h) fun j hj=>hp j hj (by omega)
    have hlb:i<b.length→i<a.length∧(A a i).f0≤(A b i).f0:=fun h=>head_le tb ta h (h2 i h) fun j hj=>(hp j hj ((ih j (by omega)).1.2 (by omega))).symm
    refine⟨⟨fun h=>(hla h).1,fun h=>(hlb h).1⟩,fun h=>?_⟩
    have hb:=(hla h).1
    have e0:(A a i).f0=(A b i).f0:=by have:=(hla h).2;have:=(hlb hb).2;omega
    have l1:=last_le ta tb h hb (h1 i h) e0
    have l2:=last_le tb ta hb h (h2 i hb) e0.symm
    exact one_of_fields e0 (by have:=l1.2;have:=l2.2;omega) l1.1
 refine⟨?_,fun i hi=>(key (i+1) i (by omega)).2 hi⟩
 have ka:=fun i=>(key (i+1) i (by omega)).1
 rcases Nat.lt_trichotomy a.length b.length with e|e|e
 ·exact absurd ((ka a.length).2 e) (by omega)
 ·exact e
 ·exact absurd ((ka b.length).1 e) (by omega)
end Go.Proofs.Ytcokpnajkkjclaa.SpA
