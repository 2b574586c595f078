import Derived.Test.YtcokpnajkkjclaaSpC
import Derived.Test.YtcokpnajkkjclaaSoD
import Derived.Test.YtcokpnajkkjclaaGAF15
import Derived.Test.YtcokpnajkkjclaaGM3
/- Plain law of span.Build: what is built is a table, and tells of any number what was said last. -/
namespace Go.Proofs.Ytcokpnajkkjclaa.SpA
open Go Go.RowKit Go.Proofs.Ytcokpnajkkjclaa.GA Go.Proofs.Ytcokpnajkkjclaa.PuE Go.Proofs.YtcokpnajkkjclaaW.PrintWords Go.Proofs.YtcokpnajkkjclaaW.PrintLast Go.Proofs.YtcokpnajkkjclaaW.PrintMore
set_option linter.unusedVariables false
set_option linter.unusedSimpArgs false
def same (a b:List S37):Prop:=a.length=b.length∧∀ i,i<a.length→A a i=A b i
theorem same.symm {a b:List S37} (h:same a b):same b a:=⟨h.1.symm,fun i hi=>(h.2 i (by rw[h.1];exact hi)).symm⟩
theorem At.same {a b:List S37} (h:same a b) {r v:Int} (ha:At a r v):At b r v:=by
 rcases ha with⟨i,hi,h1,h2,h3⟩|⟨hn,h3⟩
 ·rw[h.2 i hi] at h1 h2 h3
  exact .inl ⟨i,by rw[← h.1];exact hi,h1,h2,h3⟩
 ·refine .inr ⟨fun i hi=>?_,h3⟩
  have:=hn i (by rw[h.1];exact hi)
  rwa [h.2 i (by rw[h.1];exact hi)] at this
theorem At.some (l:List S37) (r:Int):∃ v,At l r v:=by
 by_cases h:∃ i,i<l.length∧(A l i).f0≤r∧r≤(A l i).f1
 ·obtain⟨i,hi,h1,h2⟩:=h
  exact⟨_,.inl ⟨i,hi,h1,h2,rfl⟩⟩
 ·exact⟨0,.inr ⟨fun i hi hh=>h ⟨i,hi,hh.1,hh.2⟩,rfl⟩⟩
theorem ne_of_fields {x y:S37} (h:x≠y):(!(x.f0==y.f0) || (!(x.f1==y.f1) || (!(x.f2==y.f2))))=true:=by
 by_cases h0:x.f0=y.f0
 ·by_cases h1:x.f1=y.f1
  ·by_cases h2:x.f2=y.f2
   ·exact absurd (one_of_fields h0 h1 h2) h
   ·simp[h2]
  ·simp[h1]
 ·simp[h0]
/-- Are they the same, cell by cell? -/
theorem same_l0 (a b:List S37) (hn:a.length≤500) (hl:a.length=b.length):∀ m i:Nat,m=a.length - i→i≤a.length→∃ c:Bool,(c=true↔∀ j,i≤j→j<a.length→A a j=A b j)∧Evt (fun k=>toponymref02_Same.l0 k i a b) c:=by
 intro m
 induction m with
 |zero=>
  intro i hm hi
  refine⟨true,⟨fun _ j h1 h2=>absurd h1 (by omega),fun _=>rfl⟩,Evt.step ?_⟩
  simp only[toponymref02_Same.l0]
  exact Evt.ifn (by omega) (Evt.now _)
 |succ m ih=>
  intro i hm hi
  have e1:wrap64 ((i:Int)+1)=((i+1:Nat):Int):=by rw[w64 _ (by omega)];omega
  by_cases h:A a i=A b i
  ·obtain⟨c,hc,hE⟩:=ih (i+1) (by omega) (by omega)
   refine⟨c,⟨fun e j h1 h2=>?_,fun e=>hc.2 fun j h1 h2=>e j (by omega) h2⟩,Evt.step ?_⟩
   ·by_cases e2:j=i
    ·subst e2;exact h
    ·exact hc.1 e j (by omega) h2
   simp only[toponymref02_Same.l0,rdA,e1,h]
   exact Evt.ifp (by omega) (Evt.ifp (by omega) (Evt.ifp (by omega) (Evt.ifn (by simp) hE)))
  ·refine⟨false,⟨fun e=>absurd e (by simp),fun e=>absurd (e i (Nat.le_refl _) (by omega)) h⟩,Evt.step ?_⟩
   simp only[toponymref02_Same.l0,rdA]
   exact Evt.ifp (by omega) (Evt.ifp (by omega) (Evt.ifp (by omega) (Evt.ifp (ne_of_fields h) (Evt.now _))))
theorem same_ev (a b:List S37) (hn:a.length≤500):∃ c:Bool,(c=true↔same a b)∧Evt (fun k=>toponymref02_Same.f k a b) c:=by
 unfold toponymref02_Same.f
 by_cases hl:a.length=b.length
 ·obtain⟨c,hc,hE⟩:=same_l0 a b hn hl (a.length - 0) 0 rfl (by omega)
  refine⟨c,⟨fun e=>⟨hl,fun i hi=>hc.1 e i (by omega) hi⟩,fun e=>hc.2 fun j _ h2=>e.2 j h2⟩,Evt.ifp (by omega) hE⟩
 ·exact⟨false,⟨fun e=>absurd e (by simp),fun e=>absurd e.1 hl⟩,Evt.ifn (by omega) (Evt.now _)⟩
/-! ### what was said last -/
def has (l:List S37) (r:Int):Int:=back.find l r 0
theorem look_at (l:List S37) (r:Int):∀ n,(∃ i,i<n∧(A l i).f0≤r∧r≤(A l i).f1∧back.look r 0 (back.seq l n)=(A l i).f2)∨((∀ i,i<n→ ¬ ((A l i).f0≤r∧r≤(A l i).f1))∧back.look r 0 (back.seq l n)=0):=by
 intro n
 induction n with
 |zero=>exact .inr ⟨fun i hi=>absurd hi (by omega),rfl⟩
 |succ n ih=>
  have e:back.seq l (n+1)=((n:Int),A l n)::back.seq l n:=rfl
  rw[e]
  unfold back.look
  by_cases h:(A l n).f0≤r∧r≤(A l n).f1
  ·have hh:back.hit r (A l n)=true:=by simp[back.hit,h.1,h.2]
   rw[if_pos hh]
   exact .inl ⟨n,by omega,h.1,h.2,rfl⟩
  ·have hh: ¬ back.hit r (A l n)=true:=by
    simp only[back.hit,Bool.and_eq_true,decide_eq_true_eq]
    exact h
   rw[if_neg hh]
   rcases ih with⟨i,hi,h1,h2,h3⟩|⟨h1,h2⟩
   ·exact .inl ⟨i,by omega,h1,h2,h3⟩
   ·refine .inr ⟨fun i hi=>?_,h2⟩
    by_cases ei:i=n
    ·subst ei;exact h
    ·exact h1 i (by omega)
theorem has_at (l:List S37) (r:Int):At l r (has l r):=look_at l r l.length
theorem has_const (l:List S37) (x r:Int) (h:∀ i,i<l.length→(((A l i).f0≤x∧x≤(A l i).f1)↔((A l i).f0≤r∧r≤(A l i).f1))):has l r=has l x:=by
 have key:∀ n,n≤l.length→back.look r 0 (back.seq l n)=back.look x 0 (back.seq l n):=by
  intro n
  induction n with
  |zero=>intro _;rfl
  |succ n ih=>
   intro hn
   have e:back.seq l (n+1)=((n:Int),A l n)::back.seq l n:=rfl
   rw[e]
   unfold back.look
   have hh:=h n (by omega)
   by_cases h1:(A l n).f0≤x∧x≤(A l n).f1
   ·have h2:=hh.1 h1
    rw[if_pos (by simp[back.hit,h2.1,h2.2]),if_pos (by simp[back.hit,h1.1,h1.2])]
   ·have h2: ¬ ((A l n).f0≤r∧r≤(A l n).f1):=fun h3=>h1 (hh.2 h3)
    rw[if_neg (by simp only[back.hit,Bool.and_eq_true,decide_eq_true_eq];exact h2),if_neg (by simp only[back.hit,Bool.and_eq_true,decide_eq_true_eq];exact h1)]
    exact ih (by omega)
 exact key l.length (Nat.le_refl _)
theorem has_none (l:List S37) (r:Int) (h:∀ i,i<l.length→ ¬ ((A l i).f0≤r∧r≤(A l i).f1)):has l r=0:=by
 rcases has_at l r with⟨i,hi,h1,h2,_⟩|⟨_,h0⟩
 ·exact absurd ⟨h1,h2⟩ (h i hi)
 ·exact h0
/-! ### a table that grows -/
structure Inv (l out:List S37) (x:Int):Prop where
 t:tab out
 b:∀ i,i<out.length→(A out i).f1<x
 a:∀ r,r<x→At out r (has l r)
def ext (out:List S37) (x h:Int):Prop:=0<out.length∧(A out (out.length - 1)).f2=h∧(A out (out.length - 1)).f1+1=x
instance (out:List S37) (x h:Int):Decidable (ext out x h):=by unfold ext;infer_instance
theorem A_app (out:List S37) (v:S37) (i:Nat):A (out++[v]) i=if i<out.length then A out i else if i=out.length then v else z37:=by
 unfold A rd_T37
 simp only[Int.toNat_natCast,List.getD_eq_getElem?_getD]
 split
 ·rw[List.getElem?_append_left (by assumption)]
 ·rename_i h
  rw[List.getElem?_append_right (by omega)]
  split
  ·rename_i h2
   subst h2
   simp
  ·rename_i h2
   rw[List.getElem?_eq_none (by simp;omega)]
   rfl
theorem A_set (out:List S37) (v:S37) (j i:Nat) (hj:j<out.length):A (out.set j v) i=if i=j then v else A out i:=by
 unfold A rd_T37
 simp only[Int.toNat_natCast,List.getD_eq_getElem?_getD,List.getElem?_set]
 by_cases h:i=j
 ·subst h
  simp[hj]
 ·rw[if_neg (fun e=>h e.symm),if_neg h]
theorem inv_skip {l out:List S37} {x y:Int} (I:Inv l out x) (hxy:x<y) (hc:∀ r,x≤r→r<y→has l r=has l x) (h0:has l x=0):Inv l out y:=by
 refine⟨I.t,fun i hi=>by have:=I.b i hi;omega,fun r hr=>?_⟩
 by_cases h:r<x
 ·exact I.a r h
 ·refine .inr ⟨fun i hi hh=>?_,by rw[hc r (by omega) hr,h0]⟩
  have:=I.b i hi
  omega
theorem inv_ext {l out:List S37} {x y:Int} (I:Inv l out x) (hxy:x<y) (hy:y≤1114112) (hc:∀ r,x≤r→r<y→has l r=has l x) (he:ext out x (has l x)):
  Inv l (out.set (out.length - 1) ⟨(A out (out.length - 1)).f0,y - 1,(A out (out.length - 1)).f2⟩) y:=by
 obtain⟨h1,h2,h3⟩:=he
 obtain⟨⟨g0,g1,g2⟩,g3,g4⟩:=I.t (out.length - 1) (by omega)
 have hA:∀ i,A (out.set (out.length - 1) ⟨(A out (out.length - 1)).f0,y - 1,(A out (out.length - 1)).f2⟩) i=if i=out.length - 1 then⟨(A out (out.length - 1)).f0,y - 1,(A out (out.length - 1)).f2⟩ else A out i:=fun i=>A_set out _ _ i (by omega)
 refine⟨fun i hi=>?_,fun i hi=>?_,fun r hr=>?_⟩
 ·rw[List.length_set] at hi
  rw[hA i]
  by_cases e:i=out.length - 1
  ·rw[if_pos e]
   refine⟨⟨g0,by show(A out (out.length - 1)).f0≤y - 1;omega,by show y - 1≤1114111;omega⟩,g3,fun h=>?_⟩
   rw[hA (i - 1),if_neg (by omega)]
   subst e
   exact g4 h
  ·rw[if_neg e]
   refine⟨(I.t i hi).1,(I.t i hi).2.1,fun h=>?_⟩
   rw[hA (i - 1),if_neg (by omega)]
   exact(I.t i hi).2.2 h
 ·rw[List.length_set] at hi
  rw[hA i]
  by_cases e:i=out.length - 1
  ·rw[if_pos e]
   show y - 1<y
   omega
  ·rw[if_neg e]
   have:=I.b i hi
   omega
 ·by_cases h:r<x
  ·rcases I.a r h with⟨i,hi,a1,a2,a3⟩|⟨a1,a2⟩
   ·refine .inl ⟨i,by rw[List.length_set];exact hi,?_⟩
    rw[hA i]
    by_cases e:i=out.length - 1
    ·rw[if_pos e]
     subst e
     exact⟨a1,by show r≤y - 1;omega,a3⟩
    ·rw[if_neg e]
     exact⟨a1,a2,a3⟩
   ·refine .inr ⟨fun i hi hh=>?_,a2⟩
    rw[List.length_set] at hi
    rw[hA i] at hh
    by_cases e:i=out.length - 1
    ·rw[if_pos e] at hh
     subst e
     have q:(A out (out.length - 1)).f0≤r:=hh.1
     exact a1 _ hi ⟨q,by omega⟩
    ·rw[if_neg e] at hh
     exact a1 i hi hh
  ·refine .inl ⟨out.length - 1,by rw[List.length_set];omega,?_⟩
   rw[hA,if_pos rfl]
   exact⟨by show(A out (out.length - 1)).f0≤r;omega,by show r≤y - 1;omega,by rw[hc r (by omega) hr];exact h2.symm⟩
theorem inv_app {l out:List S37} {x y:Int} (I:Inv l out x) (hx:0≤x) (hxy:x<y) (hy:y≤1114112) (hc:∀ r,x≤r→r<y→has l r=has l x) (h0:has l x≠0) (he: ¬ ext out x (has l x)):
  Inv l (out++[⟨x,y - 1,has l x⟩]) y:=by
 have hA:=A_app out ⟨x,y - 1,has l x⟩
 have hlen:(out++[(⟨x,y - 1,has l x⟩:S37)]).length=out.length+1:=by simp
 refine⟨fun i hi=>?_,fun i hi=>?_,fun r hr=>?_⟩
 ·rw[hlen] at hi
  rw[hA i]
  by_cases e:i<out.length
  ·rw[if_pos e]
   refine⟨(I.t i e).1,(I.t i e).2.1,fun h=>?_⟩
   rw[hA (i - 1),if_pos (by omega)]
   exact(I.t i e).2.2 h
  ·rw[if_neg e,if_pos (by omega)]
   refine⟨⟨hx,by show x≤y - 1;omega,by show y - 1≤_;omega⟩,h0,fun h=>?_⟩
   rw[hA (i - 1),if_pos (by omega)]
   obtain rfl:i=out.length:=by omega
   have:=I.b (out.length - 1) (by omega)
   exact⟨this,fun hh=>he ⟨h,hh.2,hh.1⟩⟩
 ·rw[hlen] at hi
  rw[hA i]
  by_cases e:i<out.length
  ·rw[if_pos e]
   have:=I.b i e
   omega
  ·rw[if_neg e,if_pos (by omega)]
   show y - 1<y
   omega
 ·by_cases h:r<x
  ·rcases I.a r h with⟨i,hi,a1,a2,a3⟩|⟨a1,a2⟩
   ·refine .inl ⟨i,by rw[hlen];omega,?_⟩
    rw[hA i,if_pos hi]
    exact⟨a1,a2,a3⟩
   ·refine .inr ⟨fun i hi hh=>?_,a2⟩
    rw[hlen] at hi
    rw[hA i] at hh
    by_cases e:i<out.length
    ·rw[if_pos e] at hh
     exact a1 i e hh
    ·rw[if_neg e,if_pos (by omega)] at hh
     have q:x≤r:=hh.1
     omega
  ·refine .inl ⟨out.length,by rw[hlen];omega,?_⟩
   rw[hA,if_neg (by omega),if_pos rfl]
   exact⟨by show x≤r;omega,by show r≤y - 1;omega,hc r (by omega) hr⟩
/-! ### the edges -/
theorem compact_sorted (d:Array Int) (hs:∀ i j,i≤j→j<d.size→d[i]! ≤d[j]!):∀ m,m≤d.size→(Go.Lib.compactUpTo d m).Pairwise (· < ·)∧(∀ x ∈ Go.Lib.compactUpTo d m,∃ j,j<m∧x=d[j]!)∧∀ j,j<m→d[j]! ∈ Go.Lib.compactUpTo d m:=by
 intro m
 induction m with
 |zero=>intro _;exact⟨List.Pairwise.nil,fun x hx=>(by cases hx),fun j hj=>absurd hj (by omega)⟩
 |succ m ih=>
  intro hm
  obtain⟨p1,p2,p3⟩:=ih (by omega)
  rw[Go.Lib.compactUpTo_succ]
  by_cases hk:Go.Lib.keeps d m=true
  ·rw[if_pos hk]
   refine⟨List.pairwise_append.2 ⟨p1,List.pairwise_singleton _ _,fun x hx y hy=>?_⟩,fun x hx=>?_,fun j hj=>?_⟩
   ·obtain⟨j,hj,rfl⟩:=p2 x hx
    rw[List.mem_singleton.1 hy]
    have h1:=hs j (m - 1) (by omega) (by omega)
    have h2:=hs (m - 1) m (by omega) (by omega)
    have h3:d[m]! ≠d[m - 1]! :=by
     simp[Go.Lib.keeps] at hk
     rcases hk with h|h
     ·omega
     ·exact h
    omega
   ·rcases List.mem_append.1 hx with h|h
    ·obtain⟨j,hj,e⟩:=p2 x h
     exact⟨j,by omega,e⟩
    ·exact⟨m,by omega,List.mem_singleton.1 h⟩
   ·by_cases e:j=m
    ·subst e;simp
    ·exact List.mem_append_left _ (p3 j (by omega))
  ·rw[if_neg hk,List.append_nil]
   refine⟨p1,fun x hx=>?_,fun j hj=>?_⟩
   ·obtain⟨j,hj,e⟩:=p2 x hx
    exact⟨j,by omega,e⟩
   ·by_cases e:j=m
    ·subst e
     have h3:j≠0∧d[j]! =d[j - 1]! :=by
      simp[Go.Lib.keeps] at hk
      exact⟨by omega,hk.2⟩
     rw[h3.2]
     exact p3 (j - 1) (by omega)
    ·exact p3 j (by omega)
theorem compact_list (R:List Int) (h:R.Pairwise (· ≤ ·)):(Go.Lib.compact R).Pairwise (· < ·)∧∀ x,x ∈ Go.Lib.compact R↔x ∈ R:=by
 have hs:∀ i j,i≤j→j<R.toArray.size→R.toArray[i]! ≤R.toArray[j]! :=by
  intro i j hij hj
  have hj':j<R.length:=by simpa using hj
  have hi':i<R.length:=by omega
  by_cases e:i=j
  ·subst e;exact Int.le_refl _
  ·have:=List.pairwise_iff_getElem.1 h i j hi' hj' (by omega)
   simpa [hi',hj'] using this
 obtain⟨p1,p2,p3⟩:=compact_sorted R.toArray hs R.length (by simp)
 refine⟨p1,fun x=>⟨fun hx=>?_,fun hx=>?_⟩⟩
 ·obtain⟨j,hj,rfl⟩:=p2 x hx
  have e:R.toArray[j]! =R[j]:=by simp[hj]
  rw[e]
  exact List.getElem_mem hj
 ·obtain⟨j,hj,rfl⟩:=List.mem_iff_getElem.1 hx
  have e:R.toArray[j]! =R[j]:=by simp[hj]
  rw[← e]
  exact p3 j hj
/-- All edges, as they come. -/
def raw (l:List S37):Nat→List Int
 |0=>[]
 |n+1=>raw l n++[(A l n).f0]++[(A l n).f1+1]
theorem raw_len (l:List S37):∀ n,(raw l n).length=2*n
 |0=>rfl
 |n+1=>by rw[raw,List.length_append,List.length_append,raw_len l n];simp;omega
theorem mem_raw (l:List S37) (x:Int):∀ n,x ∈ raw l n↔∃ i,i<n∧(x=(A l i).f0∨x=(A l i).f1+1)
 |0=>by simp[raw]
 |n+1=>by
  simp only[raw,List.mem_append,List.mem_singleton,mem_raw l x n]
  constructor
  ·rintro((⟨i,hi,h⟩|h)|h)
   ·exact⟨i,by omega,h⟩
   ·exact⟨n,by omega,.inl h⟩
   ·exact⟨n,by omega,.inr h⟩
  ·rintro⟨i,hi,h⟩
   by_cases e:i=n
   ·subst e
    rcases h with h|h
    ·exact .inl (.inr h)
    ·exact .inr h
   ·exact .inl (.inl ⟨i,by omega,h⟩)
theorem edges_l0 (l:List S37) (hn:l.length≤200) (hg:∀ i,i<l.length→good (A l i)) (v:List Int) (hv:Evt (fun k=>(slices_Sort_rune_rune.f k (raw l l.length)).bind fun y73=>((slices_Compact_rune_rune.f y73).bind fun y80=>(some y80))) v):∀ m i,m=l.length - i→i≤l.length→
  Evt (fun k=>span_edges.l0 k (raw l i) i l) v:=by
 intro m
 induction m with
 |zero=>
  intro i hm hi
  obtain rfl:i=l.length:=by omega
  refine Evt.step ?_
  simp only[span_edges.l0]
  exact Evt.ifn (by omega) hv
 |succ m ih=>
  intro i hm hi
  have e1:wrap64 ((i:Int)+1)=((i+1:Nat):Int):=by rw[w64 _ (by omega)];omega
  obtain⟨g0,g1,g2⟩:=hg i (by omega)
  have e2:wrap32 ((A l i).f1+1)=(A l i).f1+1:=w32 _ (by omega)
  have hl:=raw_len l i
  refine Evt.step ?_
  simp only[span_edges.l0,rdA,e1,span_piece_start.f,span_piece_behind.f,e2,Option.bind_some]
  clear e1 e2
  refine Evt.ifp (by omega) (Evt.ifp (by omega) (Evt.ifp (by omega) (Evt.ifp (by rw[List.length_append];simp;omega) ?_)))
  exact ih (i+1) (by omega) (by omega)
theorem edges_ev (l:List S37) (hn:l.length≤200) (hg:∀ i,i<l.length→good (A l i)):∃ E:List Int,Evt (fun k=>span_edges.f k l) E∧E.Pairwise (· < ·)∧E.length≤400∧∀ x,x ∈ E↔∃ i,i<l.length∧(x=(A l i).f0∨x=(A l i).f1+1):=by
 have hl:=raw_len l l.length
 obtain⟨R,p1,p2,p3⟩:=So.sort (raw l l.length) (by omega)
 obtain⟨c1,c2⟩:=compact_list R p2
 refine⟨Go.Lib.compact R,?_,c1,?_,fun x=>?_⟩
 ·unfold span_edges.f
  exact edges_l0 l hn hg _ (Evt.bind p3 (Evt.bind (Evt.now _) (Evt.now _))) _ 0 rfl (by omega)
 ·have h1:(Go.Lib.compact R).length≤R.length:=by
   unfold Go.Lib.compact Go.Lib.compactUpTo
   rw[List.length_map]
   exact Nat.le_trans (List.length_filter_le _ _) (by simp)
  have h2:=p1.length_eq
  omega
 ·rw[c2 x,p1.mem_iff,mem_raw]
/-! ### the loop over the edges -/
theorem rd_mem (E:List Int) (i:Nat) (h:i<E.length):rd E (i:Int) ∈ E:=by
 have:rd E (i:Int)=E[i]:=by simp[rd,rdOf,List.getD,h]
 rw[this]
 exact List.getElem_mem h
theorem rd_rise (E:List Int) (hE:E.Pairwise (· < ·)) {i j:Nat} (hij:i<j) (hj:j<E.length):rd E (i:Int)<rd E (j:Int):=by
 have h1:rd E (i:Int)=E[i]:=by simp[rd,rdOf,List.getD,show i<E.length by omega]
 have h2:rd E (j:Int)=E[j]:=by simp[rd,rdOf,List.getD,hj]
 rw[h1,h2]
 exact List.pairwise_iff_getElem.1 hE i j (by omega) hj hij
theorem rd_find (E:List Int) (x:Int) (h:x ∈ E):∃ j,j<E.length∧x=rd E (j:Int):=by
 obtain⟨j,hj,rfl⟩:=List.mem_iff_getElem.1 h
 exact⟨j,hj,by simp[rd,rdOf,List.getD,hj]⟩
structure Edges (l:List S37) (E:List Int):Prop where
 n:l.length≤200
 g:∀ i,i<l.length→good (A l i)
 s:E.Pairwise (· < ·)
 m:∀ x,x ∈ E↔∃ i,i<l.length∧(x=(A l i).f0∨x=(A l i).f1+1)
 c:E.length≤400
theorem Edges.within {l:List S37} {E:List Int} (h:Edges l E) (i:Nat) (hi:i<E.length):0≤rd E (i:Int)∧rd E (i:Int)≤1114112:=by
 obtain⟨j,hj,e⟩:=(h.m _).1 (rd_mem E i hi)
 obtain⟨g0,g1,g2⟩:=h.g j hj
 rcases e with e|e <;>omega
/-- An edge is one of those at or ahead of a place, or one of those behind it. -/
theorem Edges.side {l:List S37} {E:List Int} (h:Edges l E) (i:Nat) (hi:i+1<E.length) (x:Int) (hx:x ∈ E):x≤rd E (i:Int)∨rd E ((i+1:Nat):Int)≤x:=by
 obtain⟨j,hj,rfl⟩:=rd_find E x hx
 rcases Nat.lt_trichotomy j i with e|e|e
 ·exact .inl (Int.le_of_lt (rd_rise E h.s e (by omega)))
 ·subst e;exact .inl (Int.le_refl _)
 ·by_cases e2:j=i+1
  ·subst e2;exact .inr (Int.le_refl _)
  ·exact .inr (Int.le_of_lt (rd_rise E h.s (by omega) hj))
theorem Edges.const {l:List S37} {E:List Int} (h:Edges l E) (i:Nat) (hi:i+1<E.length) (r:Int) (h1:rd E (i:Int)≤r) (h2:r<rd E ((i+1:Nat):Int)):has l r=has l (rd E (i:Int)):=by
 refine has_const l _ r fun j hj=>?_
 have a1:=h.side i hi (A l j).f0 ((h.m _).2 ⟨j,hj,.inl rfl⟩)
 have a2:=h.side i hi ((A l j).f1+1) ((h.m _).2 ⟨j,hj,.inr rfl⟩)
 omega
/-- What is built. -/
def Built (l t:List S37):Prop:=tab t∧t.length≤400∧∀ r,At t r (has l r)
theorem build_l1 {l:List S37} {E:List Int} (h:Edges l E):∀ (m i:Nat) (out:List S37),m=E.length - (i+1)→i<E.length→out.length≤i→Inv l out (rd E (i:Int))→
  ∃ t,Built l t∧Evt (fun k=>span_Build.l1 k out i l E) (t,0):=by
 intro m
 induction m with
 |zero=>
  intro i out hm hi ho I
  have hc:=h.c
  have e1:wrap64 ((i:Int)+1)=((i+1:Nat):Int):=by rw[w64 _ (by omega)];omega
  refine⟨out,⟨I.t,by omega,fun r=>?_⟩,Evt.step ?_⟩
  ·by_cases hr:r<rd E (i:Int)
   ·exact I.a r hr
   ·have h0:has l r=0:=by
     refine has_none l r fun j hj hh=>?_
     obtain⟨q,hq,e⟩:=rd_find E _ ((h.m _).2 ⟨j,hj,.inr rfl⟩)
     have:rd E (q:Int)≤rd E (i:Int):=by
      by_cases e2:q=i
      ·subst e2;exact Int.le_refl _
      ·exact Int.le_of_lt (rd_rise E h.s (by omega) hi)
     omega
    rw[h0]
    refine .inr ⟨fun j hj hh=>?_,rfl⟩
    have:=I.b j hj
    omega
  ·simp only[span_Build.l1,e1]
   clear e1
   exact Evt.ifn (by omega) (Evt.now _)
 |succ m ih=>
  intro i out hm hi ho I
  have hc:=h.c
  have hn:=h.n
  have e1:wrap64 ((i:Int)+1)=((i+1:Nat):Int):=by rw[w64 _ (by omega)];omega
  have hxy:=rd_rise E h.s (show i<i+1 by omega) (by omega)
  have hx:=h.within i hi
  have hy:=h.within (i+1) (by omega)
  have e2:wrap32 (rd E ((i+1:Nat):Int) - 1)=rd E ((i+1:Nat):Int) - 1:=w32 _ (by omega)
  have hcst:=h.const i (by omega)
  have e0:back.find l (rd E (i:Int)) 0=has l (rd E (i:Int)):=rfl
  by_cases h0:has l (rd E (i:Int))=0
  ·obtain⟨t,hB,hE⟩:=ih (i+1) out (by omega) (by omega) (by omega) (inv_skip I hxy hcst h0)
   refine⟨t,hB,Evt.step ?_⟩
   simp only[span_Build.l1,e1,e2,e0]
   clear e1 e2
   exact Evt.ifp (by omega) (Evt.ifp (by omega) (Evt.ifp (by omega) (Evt.ifp (by omega) (Evt.ifp (by omega) (Evt.ifp h0 hE)))))
  ·by_cases hlen:out.length=0
   ·have he: ¬ ext out (rd E (i:Int)) (has l (rd E (i:Int))):=fun hh=>absurd hh.1 (by omega)
    obtain⟨t,hB,hE⟩:=ih (i+1) _ (by omega) (by omega) (by simp;omega) (inv_app I hx.1 hxy hy.2 hcst h0 he)
    have e3:wrap64 ((out.length:Int) - 1)=(out.length:Int) - 1:=w64 _ (by omega)
    refine⟨t,hB,Evt.step ?_⟩
    simp only[span_Build.l1,e1,e2,e3,e0]
    clear e1 e2 e3
    refine Evt.ifp (by omega) (Evt.ifp (by omega) (Evt.ifp (by omega) (Evt.ifp (by omega) (Evt.ifp (by omega) (Evt.ifn h0 ?_)))))
    refine Evt.bind (v:=false) (Evt.of_all fun k=>if_neg (by omega)) (Evt.ifn (by simp) (Evt.ifp (by omega) (Evt.bind (Evt.now _) hE)))
   ·have e3:wrap64 ((out.length:Int) - 1)=((out.length - 1:Nat):Int):=by rw[w64 _ (by omega)];omega
    have gl:=(I.t (out.length - 1) (by omega)).1
    have e4:wrap32 ((A out (out.length - 1)).f1+1)=(A out (out.length - 1)).f1+1:=w32 _ (by have:=gl.2.2;have:=gl.2.1;have:=gl.1;omega)
    have T:∀ k:Nat,(if (((out.length - 1:Nat):Int))≥0 then(if 0≤((out.length - 1:Nat):Int) then(if ((out.length - 1:Nat):Int)<(out.length:Int) then(if (A out (out.length - 1)).f2=has l (rd E (i:Int)) then(some (((A out (out.length - 1)).f1+1==rd E (i:Int)))) else(some (false))) else none) else none) else(some false))=
      some (decide (ext out (rd E (i:Int)) (has l (rd E (i:Int))))):=by
     intro k
     rw[if_pos (by omega),if_pos (by omega),if_pos (by omega)]
     by_cases q1:(A out (out.length - 1)).f2=has l (rd E (i:Int))
     ·rw[if_pos q1]
      by_cases q2:(A out (out.length - 1)).f1+1=rd E (i:Int)
      ·rw[decide_eq_true (show ext out (rd E (i:Int)) (has l (rd E (i:Int))) from⟨by omega,q1,q2⟩)]
       simp[q2]
      ·rw[decide_eq_false (fun hh:ext out (rd E (i:Int)) (has l (rd E (i:Int)))=>q2 hh.2.2)]
       simp[q2]
     ·rw[if_neg q1,decide_eq_false (fun hh:ext out (rd E (i:Int)) (has l (rd E (i:Int)))=>q1 hh.2.1)]
    by_cases he:ext out (rd E (i:Int)) (has l (rd E (i:Int)))
    ·obtain⟨t,hB,hE⟩:=ih (i+1) _ (by omega) (by omega) (by rw[List.length_set];omega) (inv_ext I hxy hy.2 hcst he)
     refine⟨t,hB,Evt.step ?_⟩
     simp only[span_Build.l1,e1,e2,e3,e0,rdA,e4,So.nat_nat]
     clear e1 e2 e3 e4
     refine Evt.ifp (by omega) (Evt.ifp (by omega) (Evt.ifp (by omega) (Evt.ifp (by omega) (Evt.ifp (by omega) (Evt.ifn h0 ?_)))))
     exact Evt.bind (Evt.of_all fun k=>T k) (Evt.ifp (decide_eq_true he) (Evt.ifp (by omega) (Evt.ifp (by omega) (Evt.bind (Evt.now _) hE))))
    ·obtain⟨t,hB,hE⟩:=ih (i+1) _ (by omega) (by omega) (by simp;omega) (inv_app I hx.1 hxy hy.2 hcst h0 he)
     refine⟨t,hB,Evt.step ?_⟩
     simp only[span_Build.l1,e1,e2,e3,e0,rdA,e4,So.nat_nat]
     clear e1 e2 e3 e4
     refine Evt.ifp (by omega) (Evt.ifp (by omega) (Evt.ifp (by omega) (Evt.ifp (by omega) (Evt.ifp (by omega) (Evt.ifn h0 ?_)))))
     exact Evt.bind (Evt.of_all fun k=>T k) (Evt.ifn (by rw[decide_eq_false he];simp) (Evt.ifp (by omega) (Evt.bind (Evt.now _) hE)))
/-- span.Build: refused, or built. -/
theorem build_l0 (l:List S37) (hn:l.length≤200) (v:List S37 × Int) (hv:(∀ i,i<l.length→good (A l i))→Evt (fun k=>(span_edges.f k l).bind fun t23=>(span_Build.l1 k ([]:List S37) 0 l t23)) v) (hb:(¬ ∀ i,i<l.length→good (A l i))→v=([],20)):∀ m i,m=l.length - i→i≤l.length→(∀ j,j<i→good (A l j))→
  Evt (fun k=>span_Build.l0 k i l) v:=by
 intro m
 induction m with
 |zero=>
  intro i hm hi hp
  refine Evt.step ?_
  simp only[span_Build.l0]
  exact Evt.ifn (by omega) (hv fun j hj=>hp j (by omega))
 |succ m ih=>
  intro i hm hi hp
  have e1:wrap64 ((i:Int)+1)=((i+1:Nat):Int):=by rw[w64 _ (by omega)];omega
  refine Evt.step ?_
  simp only[span_Build.l0,rdA,e1]
  clear e1
  have hf:∀ k:Nat,span_Build_1.f (A l i).f0 (A l i).f1 (A l i).f2=some (!decide (good (A l i))):=by
   intro k
   unfold span_Build_1.f
   rw[may_span]
   rfl
  refine Evt.ifp (by omega) (Evt.ifp (by omega) (Evt.bind (Evt.of_all fun k=>hf k) ?_))
  by_cases hg:good (A l i)
  ·exact Evt.ifn (by simp[hg]) (ih (i+1) (by omega) (by omega) fun j hj=>by
    by_cases e:j=i
    ·subst e;exact hg
    ·exact hp j (by omega))
  ·rw[hb fun hh=>hg (hh i (by omega))]
   exact Evt.ifp (by simp[hg]) (Evt.now _)
theorem inv_nil (l:List S37) (x:Int) (h:∀ i,i<l.length→x≤(A l i).f0):Inv l [] x:=by
 refine⟨fun i hi=>absurd hi (by simp),fun i hi=>absurd hi (by simp),fun r hr=>.inr ⟨fun i hi=>absurd hi (by simp),?_⟩⟩
 refine has_none l r fun i hi hh=>?_
 have:=h i hi
 omega
theorem build (l:List S37):(∃ t,l.length≤200∧(∀ i,i<l.length→good (A l i))∧Built l t∧Evt (fun k=>span_Build.f k l) (t,0))∨((¬ (l.length≤200∧∀ i,i<l.length→good (A l i)))∧Evt (fun k=>span_Build.f k l) ([],20)):=by
 unfold span_Build.f
 by_cases hn:l.length≤200
 ·by_cases hg:∀ i,i<l.length→good (A l i)
  ·obtain⟨E,q1,q2,q3,q4⟩:=edges_ev l hn hg
   have h:Edges l E:=⟨hn,hg,q2,q4,q3⟩
   obtain⟨t,hB,hE⟩:∃ t,Built l t∧Evt (fun k=>span_Build.l1 k ([]:List S37) ((0:Nat):Int) l E) (t,0):=by
    by_cases h0:E.length=0
    ·refine⟨[],⟨fun i hi=>absurd hi (by simp),by simp,fun r=>.inr ⟨fun i hi=>absurd hi (by simp),has_none l r fun i hi _=>?_⟩⟩,Evt.step ?_⟩
     ·have:=(q4 _).2 ⟨i,hi,.inl rfl⟩
      rw[List.length_eq_zero_iff.1 h0] at this
      cases this
     ·have e1:wrap64 (((0:Nat):Int)+1)=1:=w64 _ (by omega)
      simp only[span_Build.l1,e1]
      exact Evt.ifn (by omega) (Evt.now _)
    ·refine build_l1 h _ 0 [] rfl (by omega) (by simp) (inv_nil l _ fun i hi=>?_)
     obtain⟨j,hj,e⟩:=rd_find E _ ((q4 _).2 ⟨i,hi,.inl rfl⟩)
     rw[e]
     by_cases e2:j=0
     ·subst e2;exact Int.le_refl _
     ·exact Int.le_of_lt (rd_rise E q2 (by omega) hj)
   exact .inl ⟨t,hn,hg,hB,Evt.ifn (by omega) (build_l0 l hn _ (fun _=>Evt.bind q1 hE) (fun hh=>absurd hg hh) _ 0 rfl (by omega) (fun j hj=>absurd hj (by omega)))⟩
  ·exact .inr ⟨fun hh=>hg hh.2,Evt.ifn (by omega) (build_l0 l hn _ (fun hh=>absurd hh hg) (fun _=>rfl) _ 0 rfl (by omega) (fun j hj=>absurd hj (by omega)))⟩
 ·exact .inr ⟨fun hh=>hn hh.1,Evt.ifp (by omega) (Evt.now _)⟩
/-- Two that are built of the same are the same. -/
theorem built_one {l a b:List S37} (ha:tab a) (hb:tab b) (h1:∀ r,At a r (has l r)) (h2:∀ r,At b r (has l r)):same a b:=by
 have key:∀ {a b:List S37},tab a→tab b→(∀ r,At a r (has l r))→(∀ r,At b r (has l r))→∀ i,i<a.length→edge a b i:=by
  intro a b ha hb h1 h2 i hi
  obtain⟨g0,g1,g2⟩:=(ha i hi).1
  refine⟨?_,?_,has l ((A a i).f1+1),h2 _,h1 _⟩
  ·have:=At.uniq ha (h1 (A a i).f0) (.inl ⟨i,hi,Int.le_refl _,g1,rfl⟩)
   rw[← this];exact h2 _
  ·have:=At.uniq ha (h1 (A a i).f1) (.inl ⟨i,hi,g1,Int.le_refl _,rfl⟩)
   rw[← this];exact h2 _
 exact same_of_edges ha hb (key ha hb h1 h2) (key hb ha h2 h1)
/-- What is a table passes the check. -/
theorem check_tab (l:List S37) (hn:l.length≤500) (ht:tab l):Evt (fun k=>span_Check.f k l) 0:=by
 obtain⟨c,hc,hs,_,hall⟩:=check l hn (l.length - 0) 0 rfl (Nat.zero_le _) (fun h=>absurd h (by omega))
 have key:∀ m i,m=l.length - i→i≤l.length→Evt (fun k=>span_Check.l0 k i l) 0:=by
  intro m
  induction m with
  |zero=>
   intro i hm hi
   refine Evt.step ?_
   simp only[span_Check.l0]
   exact Evt.ifn (by omega) (Evt.now _)
  |succ m ih=>
   intro i hm hi
   have hlt:i<l.length:=by omega
   have e1:wrap64 ((i:Int)+1)=((i+1:Nat):Int):=by rw[w64 _ (by omega)];omega
   obtain⟨hg,h0,hb⟩:=ht i hlt
   have hgo:=ih (i+1) (by omega) (by omega)
   refine Evt.step ?_
   by_cases hi0:i=0
   ·simp only[span_Check.l0,rdA,e1]
    clear e1
    refine Evt.ifp (by omega) (Evt.ifp (by omega) (Evt.bind (v:=true) (Evt.of_all fun k=>by rw[may_span];simpa using hg) ?_))
    exact Evt.ifp rfl (Evt.ifn h0 (Evt.ifn (by omega) hgo))
   ·have e2:wrap64 ((i:Int) - 1)=((i - 1:Nat):Int):=by rw[w64 _ (by omega)];omega
    obtain⟨p0,p1,p2⟩:=(ht (i - 1) (by omega)).1
    have e3:wrap32 ((A l (i - 1)).f1+1)=(A l (i - 1)).f1+1:=w32 _ (by omega)
    have hbh:=hb (by omega)
    simp only[span_Check.l0,rdA,e1,e2,e3]
    clear e1 e2 e3
    refine Evt.ifp (by omega) (Evt.ifp (by omega) (Evt.bind (v:=true) (Evt.of_all fun k=>by rw[may_span];simpa using hg) ?_))
    refine Evt.ifp rfl (Evt.ifn h0 (Evt.ifp (by omega) (Evt.ifp (by omega) (Evt.ifp (by omega) (Evt.ifn (by have:=hbh.1;omega) ?_)))))
    by_cases h5:(A l (i - 1)).f1+1=(A l i).f0
    ·exact Evt.ifp h5 (Evt.ifn (fun h6=>hbh.2 ⟨h5,h6⟩) hgo)
    ·exact Evt.ifn h5 hgo
 unfold span_Check.f
 exact Evt.ifn (by omega) (key _ 0 rfl (by omega))
end Go.Proofs.Ytcokpnajkkjclaa.SpA
