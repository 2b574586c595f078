import Derived.Test.YtkbiiijmgbjnkaaCsA
import Derived.Test.YtkbiiijmgbjnkaaGM4
/- Plain law of CharsFirst: what is told of a kind rises, is of it, and is as many as are asked. -/
namespace Go.Proofs.Ytkbiiijmgbjnkaa.Cs
open Go Go.RowKit Go.Proofs.Ytkbiiijmgbjnkaa.GA Go.Proofs.Ytkbiiijmgbjnkaa.PuE Go.Proofs.Ytkbiiijmgbjnkaa.PuB Go.Proofs.YtkbiiijmgbjnkaaW.PrintWords Go.Proofs.YtkbiiijmgbjnkaaW.PrintLast Go.Proofs.YtkbiiijmgbjnkaaW.PrintMore
set_option linter.unusedVariables false
set_option linter.unusedSimpArgs false
theorem reps2:∀ x ∈ (-1)::B,knd x=PuB.look R x:=by decide+kernel
theorem knd_look (r:Int):knd r=PuB.look R r:=by
 rw[knd_rep r,look_inv (rep_le r) R R_ends]
 exact reps2 _ (rep_mem r)
/-- The numbers of a row. -/
def span1 (s:S38):List Int:=(List.range (s.f1+1 - s.f0).toNat).map fun j:Nat=>s.f0+(j:Int)
theorem mem_span (s:S38) (r:Int) (h:r ∈ span1 s):s.f0≤r∧r≤s.f1:=by
 obtain⟨j,hj,rfl⟩:=List.mem_map.1 h
 have:=List.mem_range.1 hj
 omega
/-- All numbers of a kind. -/
def chars_ (a:Int):List S38→List Int
 |[]=>[]
 |s::t=>if s.f2=a then span1 s++chars_ a t else chars_ a t
theorem some_take (a n:Int):∀ (l:List S38) (acc:List Int),some_ a n l acc=acc++(chars_ a l).take (n.toNat - acc.length)
 |[],acc=>by simp[some_,chars_]
 |s::t,acc=>by
  rw[some_,some_take a n t]
  by_cases h:s.f2=a
  ·rw[if_pos h,chars_,if_pos h,List.take_append]
   show(acc++(span1 s).take (n.toNat - acc.length))++(chars_ a t).take (n.toNat - (acc++(span1 s).take (n.toNat - acc.length)).length)=_
   rw[List.append_assoc,List.length_append,List.length_take]
   refine congrArg (acc++ ·) (congrArg (List.take (n.toNat - acc.length) (span1 s)++ ·) ?_)
   congr 1
   omega
  ·rw[if_neg h,chars_,if_neg h]
theorem told_take (a n:Int) (h:1≤n∧n≤500):told a n=(chars_ a R).take n.toNat:=by
 unfold told
 rw[if_neg (by omega),some_take]
 simp
/-- The rows rise. -/
def ris:List S38→Bool
 |[]=>true
 |s::t=>(decide (s.f0≤s.f1) && t.all fun x=>decide (s.f1<x.f0)) && ris t
theorem R_ris:ris R=true:=by decide+kernel
theorem ris_look:∀ (l:List S38),ris l=true→∀ s ∈ l,∀ r,s.f0≤r→r≤s.f1→PuB.look l r=s.f2
 |[],_,s,hs,_,_,_=>by cases hs
 |x::t,h,s,hs,r,h0,h1=>by
  simp only[ris,Bool.and_eq_true,List.all_eq_true,decide_eq_true_eq] at h
  unfold PuB.look
  rcases List.mem_cons.1 hs with e|hs
  ·subst e
   rw[if_pos h0,if_pos h1]
  ·have hx:=h.1.2 s hs
   rw[if_pos (by have:=h.1.1;omega),if_neg (by omega)]
   exact ris_look t h.2 s hs r h0 h1
theorem mem_chars (a r:Int):∀ (l:List S38),r ∈ chars_ a l→∃ s ∈ l,s.f2=a∧s.f0≤r∧r≤s.f1
 |[],h=>by cases h
 |s::t,h=>by
  unfold chars_ at h
  by_cases e:s.f2=a
  ·rw[if_pos e] at h
   rcases List.mem_append.1 h with h|h
   ·have:=mem_span s r h
    exact⟨s,by simp,e,this.1,this.2⟩
   ·obtain⟨x,hx,h2⟩:=mem_chars a r t h
    exact⟨x,by simp[hx],h2⟩
  ·rw[if_neg e] at h
   obtain⟨x,hx,h2⟩:=mem_chars a r t h
   exact⟨x,by simp[hx],h2⟩
theorem chars_knd (a r:Int) (h:r ∈ chars_ a R):knd r=a:=by
 obtain⟨s,hs,rfl,h0,h1⟩:=mem_chars a r R h
 rw[knd_look,ris_look R R_ris s hs r h0 h1]
theorem chars_rise (a:Int):∀ (l:List S38),ris l=true→(chars_ a l).Pairwise (· < ·)
 |[],_=>List.Pairwise.nil
 |s::t,h=>by
  simp only[ris,Bool.and_eq_true,List.all_eq_true,decide_eq_true_eq] at h
  unfold chars_
  by_cases e:s.f2=a
  ·rw[if_pos e,List.pairwise_append]
   refine⟨?_,chars_rise a t h.2,fun x hx y hy=>?_⟩
   ·unfold span1
    rw[List.pairwise_map]
    exact List.Pairwise.imp (fun h=>by omega) List.pairwise_lt_range
   ·have h1:=mem_span s x hx
    obtain⟨q,hq,_,h2,_⟩:=mem_chars a y t hy
    have:=h.1.2 q hq
    omega
  ·rw[if_neg e]
   exact chars_rise a t h.2
theorem rd_get (l:List Int) (i:Nat) (h:i<l.length):rd l (i:Int)=l[i]:=by
 simp[rd,rdOf,List.getD,h]
/-- The loop over what was told. -/
theorem loop (a n:Int) (l:List Int) (hl:l.length≤500) (hk:∀ r ∈ l,knd r=a) (hr:l.Pairwise (· < ·)) (hend:Evt (fun k=>toponymlaw03_CharsFirst.l0 k (l.length:Int) a n l) true):∀ m (i:Nat),m=l.length - i→i≤l.length→Evt (fun k=>toponymlaw03_CharsFirst.l0 k i a n l) true:=by
 intro m
 induction m with
 |zero=>
  intro i hm hi
  obtain rfl:i=l.length:=by omega
  exact hend
 |succ m ih=>
  intro i hm hi
  have hlt:i<l.length:=by omega
  have e1:wrap64 ((i:Int)+1)=((i+1:Nat):Int):=by rw[w64 _ (by omega)];omega
  have hg:knd (rd l (i:Int))=a:=by rw[rd_get l i hlt];exact hk _ (List.getElem_mem hlt)
  have hgo:=ih (i+1) (by omega) (by omega)
  refine Evt.step ?_
  simp only[toponymlaw03_CharsFirst.l0]
  rw[e1]
  refine Evt.ifp (by omega) (Evt.ifp (by omega) (Evt.bind (v:=a) (Evt.of_all fun k=>by rw[kind_some,hg]) (Evt.ifp rfl ?_)))
  by_cases h0:i=0
  ·exact Evt.ifn (by omega) hgo
  ·have e2:wrap64 ((i:Int) - 1)=((i - 1:Nat):Int):=by rw[w64 _ (by omega)];omega
   rw[e2]
   refine Evt.ifp (by omega) (Evt.ifp (by omega) (Evt.ifp (by omega) (Evt.ifn ?_ hgo)))
   rw[rd_get l i hlt,rd_get l (i - 1) (by omega)]
   have:=List.pairwise_iff_getElem.1 hr (i - 1) i (by omega) hlt (by omega)
   omega
theorem check_R:Evt (fun k=>span_Check.f k R) 0:=Evt.mono_ (k:=150) (fun k=>span_Check.mono _ k) (by decide+kernel)
theorem span_len (s:S38) (h:0≤s.f0∧s.f0≤s.f1∧s.f1≤1114111):((span1 s).length:Int)=s.f1 - s.f0+1:=by
 simp[span1]
 omega
theorem count_l0 (a:Int) (l:List S38) (hl:l.length≤1000) (ho:ok l):∀ m (i:Nat) (n:Int),m=l.length - i→i≤l.length→0≤n∧n≤i*1114112→Evt (fun k=>span_Count.l0 k n i a l) (n+((chars_ a (l.drop i)).length:Int)):=by
 intro m
 induction m with
 |zero=>
  intro i n hm hi hn
  have e:l.drop i=[]:=List.drop_eq_nil_of_le (by omega)
  rw[e]
  refine Evt.step ?_
  simp only[span_Count.l0,chars_]
  exact(Evt.ifn (by omega) (Evt.now _)).val (by simp)
 |succ m ih=>
  intro i n hm hi hn
  have e1:wrap64 ((i:Int)+1)=((i+1:Nat):Int):=by rw[w64 _ (by omega)];omega
  obtain⟨g0,g1,g2,g3⟩:=ho _ (A_mem l i (by omega))
  have hs:=span_len (A l i) ⟨g0,g1,g2⟩
  refine Evt.step ?_
  simp only[span_Count.l0,rdA,e1]
  rw[drop_A l i (by omega)]
  unfold chars_
  refine Evt.ifp (by omega) (Evt.ifp (by omega) ?_)
  by_cases h:(A l i).f2=a
  ·have e2:wrap64 (n+wrap64 (wrap64 (wrap32 ((A l i).f1 - (A l i).f0))+1))=n+((A l i).f1 - (A l i).f0+1):=by
    rw[w32 _ (by omega),w64 ((A l i).f1 - (A l i).f0) (by omega),w64 ((A l i).f1 - (A l i).f0+1) (by omega),w64 _ (by omega)]
   rw[if_pos h,e2,List.length_append]
   exact Evt.ifp h ((ih (i+1) (n+((A l i).f1 - (A l i).f0+1)) (by omega) (by omega) (by omega)).val (by omega))
  ·rw[if_neg h]
   exact Evt.ifn h (ih (i+1) n (by omega) (by omega) (by omega))
theorem count_R (a:Int):Evt (fun k=>span_Count.f k R a) ((chars_ a R).length:Int):=by
 unfold span_Count.f
 refine Evt.bind check_R (Evt.ifp rfl ?_)
 exact(count_l0 a R (by rw[R_len];omega) R_ok _ 0 0 rfl (by omega) (by omega)).val (by simp)
theorem chars_none (a:Int) (h:a<1∨7<a):chars_ a R=[]:=by
 have key:∀ l:List S38,(∀ s ∈ l,1≤s.f2∧s.f2≤7)→chars_ a l=[]:=by
  intro l
  induction l with
  |nil=>intro _;rfl
  |cons s t ih=>
   intro hl
   have:=hl s (by simp)
   rw[chars_,if_neg (by omega)]
   exact ih fun x hx=>hl x (by simp[hx])
 exact key R (by decide+kernel)
theorem charsFirst (a n:Int) {p0 p1:Prop} (_:p0) (_:p1):∃ k,toponymlaw03_CharsFirst.f k a n=some true:=by
 refine Evt.get (f:=fun k=>toponymlaw03_CharsFirst.f k a n) ?_
 unfold toponymlaw03_CharsFirst.f
 have haw:Evt (fun k=>(toponymlaw03_awake.f k).bind fun t=>some t) true:=Evt.bind awake (Evt.now _)
 refine Evt.bind (some_c a n) ?_
 have hsub:∀ r ∈ told a n,r ∈ chars_ a R:=by
  unfold told
  split
  ·intro r h;cases h
  ·intro r h
   rw[some_take] at h
   simp at h
   exact List.mem_of_mem_take h
 have hrise:(told a n).Pairwise (· < ·):=by
  unfold told
  split
  ·exact List.Pairwise.nil
  ·rw[some_take]
   simp only[List.nil_append]
   exact List.Pairwise.sublist (List.take_sublist _ _) (chars_rise a R R_ris)
 refine loop a n (told a n) (told_len a n) (fun r h=>chars_knd a r (hsub r h)) hrise ?_ _ 0 rfl (by omega)
 refine Evt.step ?_
 simp only[toponymlaw03_CharsFirst.l0]
 refine Evt.ifn (by omega) ?_
 by_cases h1:n≥1
 ·refine Evt.ifp h1 ?_
  by_cases h2:n≤500
  ·refine Evt.ifp h2 ?_
   have hlen:((told a n).length:Int)=min n ((chars_ a R).length:Int):=by
    rw[told_take a n ⟨h1,h2⟩,List.length_take]
    omega
   by_cases h3:a≥1
   ·refine Evt.ifp h3 ?_
    by_cases h4:a≤7
    ·refine Evt.ifp h4 (Evt.bind table (Evt.bind (count_R a) ?_))
     by_cases h5:((chars_ a R).length:Int)<n
     ·exact Evt.ifp h5 (Evt.ifp (by omega) haw)
     ·exact Evt.ifn h5 (Evt.ifp (by omega) haw)
    ·rw[chars_none a (by omega)] at hlen
     exact Evt.ifn h4 (Evt.ifp (by rw[hlen];simp;omega) haw)
   ·rw[chars_none a (by omega)] at hlen
    exact Evt.ifn h3 (Evt.ifp (by rw[hlen];simp;omega) haw)
  ·exact Evt.ifn h2 (Evt.ifp (by unfold told;rw[if_pos (.inr (by omega))];rfl) haw)
 ·exact Evt.ifn h1 (Evt.ifp (by unfold told;rw[if_pos (.inl (by omega))];rfl) haw)
end Go.Proofs.Ytkbiiijmgbjnkaa.Cs
