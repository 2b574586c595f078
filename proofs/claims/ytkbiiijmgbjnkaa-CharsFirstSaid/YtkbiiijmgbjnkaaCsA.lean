import Derived.Test.YtkbiiijmgbjnkaaPuEv
import Derived.Test.YtkbiiijmgbjnkaaPuB
import Derived.Test.YtkbiiijmgbjnkaaGM4
/- Plain law of CharsSome: both go through the same rows. -/
namespace Go.Proofs.Ytkbiiijmgbjnkaa.Cs
open Go Go.RowKit Go.Proofs.Ytkbiiijmgbjnkaa.GA Go.Proofs.Ytkbiiijmgbjnkaa.PuE Go.Proofs.Ytkbiiijmgbjnkaa.PuB Go.Proofs.YtkbiiijmgbjnkaaW.PrintWords Go.Proofs.YtkbiiijmgbjnkaaW.PrintLast Go.Proofs.YtkbiiijmgbjnkaaW.PrintMore
set_option linter.unusedVariables false
set_option linter.unusedSimpArgs false
def A (l:List S38) (i:Nat):S38:=rd_T38 l (i:Int)
theorem rdA (l:List S38) (i:Nat):rd_T38 l (i:Int)=A l i:=rfl
theorem w32 (x:Int) (h: -2147483648≤x∧x≤2147483647):wrap32 x=x:=IntWalk.wrap32_in x (by omega)
def beqS (x y:S38):Bool:=x.f0==y.f0 && (x.f1==y.f1 && x.f2==y.f2)
def beqL:List S38→List S38→Bool
 |[],[]=>true
 |x::s,y::t=>beqS x y && beqL s t
 |_,_=>false
theorem beqS_eq (x y:S38) (h:beqS x y=true):x=y:=by
 cases x;cases y
 simp[beqS] at h
 simp[h]
theorem beqL_eq:∀ (s t:List S38),beqL s t=true→s=t
 |[],[],_=>rfl
 |x::s,y::t,h=>by
  simp only[beqL,Bool.and_eq_true] at h
  rw[beqS_eq x y h.1,beqL_eq s t h.2]
 |[],y::t,h=>by simp[beqL] at h
 |x::s,[],h=>by simp[beqL] at h
def isR (o:Option (List S38)):Bool:=match o with|some t=>beqL t R|none=>false
theorem isR_eq (o:Option (List S38)) (h:isR o=true):o=some R:=by
 cases o with
 |none=>simp[isR] at h
 |some t=>exact congrArg some (beqL_eq t R h)
theorem table:Evt (fun k=>chars_Table.f k) R:=Evt.mono_ (k:=1500) chars_Table.mono (isR_eq _ (by decide+kernel))
theorem rows:Evt (fun k=>toponymref03_Rows.f k) R:=⟨20,fun k hk=>rows_k k hk⟩
theorem awake:Evt (fun k=>toponymlaw03_awake.f k) true:=Evt.mono_ (k:=20) toponymlaw03_awake.mono (by decide+kernel)
/-- The numbers from one on, so many as there is room for. -/
def some_ (a n:Int):List S38→List Int→List Int
 |[],acc=>acc
 |s::t,acc=>some_ a n t (if s.f2=a then acc++((List.range (s.f1+1 - s.f0).toNat).map fun j:Nat=>s.f0+(j:Int)).take (n.toNat - acc.length) else acc)
/-- What is left of one row. -/
def part (x f1 n:Int) (acc:List Int):List Int:=acc++((List.range (f1+1 - x).toNat).map fun j:Nat=>x+(j:Int)).take (n.toNat - acc.length)
theorem part_end (x f1 n:Int) (acc:List Int) (h: ¬ x≤f1):part x f1 n acc=acc:=by
 have e:(f1+1 - x).toNat=0:=by omega
 simp[part,e]
theorem part_full (x f1 n:Int) (acc:List Int) (h: ¬ (acc.length:Int)<n):part x f1 n acc=acc:=by
 have e:n.toNat - acc.length=0:=by omega
 simp[part,e]
theorem part_step (x f1 n:Int) (acc:List Int) (h:x≤f1) (hn:(acc.length:Int)<n):part x f1 n acc=part (x+1) f1 n (acc++[x]):=by
 unfold part
 obtain⟨m,hm⟩:∃ m:Nat,(f1+1 - x).toNat=m+1:=⟨(f1 - x).toNat,by omega⟩
 have hm2:(f1+1 - (x+1)).toNat=m:=by omega
 obtain⟨q,hq⟩:∃ q:Nat,n.toNat - acc.length=q+1:=⟨n.toNat - acc.length - 1,by omega⟩
 have hq2:n.toNat - (acc++[x]).length=q:=by simp;omega
 rw[hm,hm2,hq,hq2,List.range_succ_eq_map]
 simp only[List.map_cons,List.map_map,List.take_succ_cons,List.append_assoc,List.singleton_append]
 refine congrArg (acc++ ·) ?_
 have e1:x+((0:Nat):Int)=x:=by simp
 rw[e1]
 refine congrArg (x:: ·) (congrArg (List.take q) ?_)
 apply List.map_congr_left
 intro j _
 simp only[Function.comp]
 omega
theorem part_len (x f1 n:Int) (acc:List Int) (h:(acc.length:Int)≤n):((part x f1 n acc).length:Int)≤n:=by
 simp only[part,List.length_append,List.length_take,List.length_map,List.length_range]
 omega
/-- Rows that are held by bounds. -/
def ok (l:List S38):Prop:=∀ s ∈ l,0≤s.f0∧s.f0≤s.f1∧s.f1≤1114111∧1≤s.f2
theorem R_ok:ok R:=by unfold ok;decide+kernel
theorem A_mem (l:List S38) (i:Nat) (h:i<l.length):A l i ∈ l:=by
 unfold A rd_T38
 rw[Int.toNat_natCast,List.getD_eq_getElem?_getD,List.getElem?_eq_getElem h]
 exact List.getElem_mem h
theorem drop_A (l:List S38) (i:Nat) (h:i<l.length):l.drop i=A l i::l.drop (i+1):=by
 rw[List.drop_eq_getElem_cons h]
 unfold A rd_T38
 rw[Int.toNat_natCast,List.getD_eq_getElem?_getD,List.getElem?_eq_getElem h]
 rfl
/-- One row, from one number on: the program's. -/
theorem c1 (a n:Int) (l:List S38) (hl:l.length≤1000) (ho:ok l) (hn:n≤500) (i:Nat) (hi:i<l.length) (v:List Int):∀ m (x:Int) (acc:List Int),m=((A l i).f1+1 - x).toNat→0≤x→(acc.length:Int)≤n→
  Evt (fun k=>chars_Some.l0 k (if (A l i).f2=a then part x (A l i).f1 n acc else acc) ((i+1:Nat):Int) a n l) v→Evt (fun k=>chars_Some.l1 k acc x a n l i) v:=by
 have e1:wrap64 ((i:Int)+1)=((i+1:Nat):Int):=by rw[w64 _ (by omega)];omega
 have hb:=ho _ (A_mem l i hi)
 intro m
 induction m with
 |zero=>
  intro x acc hm h0 hc h
  refine Evt.step ?_
  simp only[chars_Some.l1,rdA,e1]
  by_cases ha:(A l i).f2=a
  ·rw[if_pos ha,part_end _ _ _ _ (by omega)] at h
   exact Evt.ifp ha (Evt.ifn (by omega) h)
  ·rw[if_neg ha] at h
   exact Evt.ifn ha h
 |succ m ih=>
  intro x acc hm h0 hc h
  refine Evt.step ?_
  simp only[chars_Some.l1,rdA,e1]
  by_cases ha:(A l i).f2=a
  ·refine Evt.ifp ha (Evt.ifp (by omega) ?_)
   rw[if_pos ha] at h
   by_cases hlt:(acc.length:Int)<n
   ·refine Evt.ifp hlt (Evt.ifp (by omega) (Evt.bind (Evt.now (acc++[x])) ?_))
    rw[w32 _ (by omega)]
    refine ih (x+1) (acc++[x]) (by omega) (by omega) (by simp;omega) ?_
    rw[if_pos ha,← part_step _ _ _ _ (by omega) hlt]
    exact h
   ·rw[part_full _ _ _ _ hlt] at h
    exact Evt.ifn hlt h
  ·rw[if_neg ha] at h
   exact Evt.ifn ha h
theorem some_drop (a n:Int) (l:List S38) (i:Nat) (h:i<l.length) (acc:List Int):some_ a n (l.drop i) acc=some_ a n (l.drop (i+1)) (if (A l i).f2=a then part (A l i).f0 (A l i).f1 n acc else acc):=by
 rw[drop_A l i h]
 rfl
theorem c0 (a n:Int) (l:List S38) (hl:l.length≤1000) (ho:ok l) (hn:n≤500):∀ m (i:Nat) (acc:List Int),m=l.length - i→i≤l.length→(acc.length:Int)≤n→
  Evt (fun k=>chars_Some.l0 k acc i a n l) (some_ a n (l.drop i) acc):=by
 intro m
 induction m with
 |zero=>
  intro i acc hm hi hc
  have e:l.drop i=[]:=List.drop_eq_nil_of_le (by omega)
  rw[e]
  refine Evt.step ?_
  simp only[chars_Some.l0,some_]
  exact Evt.ifn (by omega) (Evt.now _)
 |succ m ih=>
  intro i acc hm hi hc
  refine Evt.step ?_
  simp only[chars_Some.l0,rdA]
  refine Evt.ifp (by omega) (Evt.ifp (by omega) (c1 a n l hl ho hn i (by omega) _ _ _ acc rfl (ho _ (A_mem l i (by omega))).1 hc ?_))
  rw[some_drop a n l i (by omega) acc]
  refine ih (i+1) _ (by omega) (by omega) ?_
  split
  ·exact part_len _ _ _ _ hc
  ·exact hc
/-- .. the document's. -/
theorem r1 (a n:Int) (l:List S38) (hl:l.length≤1000) (ho:ok l) (hn:n≤500) (i:Nat) (hi:i<l.length) (v:List Int):∀ m (x:Int) (acc:List Int),m=((A l i).f1+1 - x).toNat→0≤x→(acc.length:Int)≤n→
  Evt (fun k=>toponymref03_Some.l0 k (if (A l i).f2=a then part x (A l i).f1 n acc else acc) ((i+1:Nat):Int) a n l) v→Evt (fun k=>toponymref03_Some.l1 k acc x a n l i) v:=by
 have e1:wrap64 ((i:Int)+1)=((i+1:Nat):Int):=by rw[w64 _ (by omega)];omega
 have hb:=ho _ (A_mem l i hi)
 intro m
 induction m with
 |zero=>
  intro x acc hm h0 hc h
  refine Evt.step ?_
  simp only[toponymref03_Some.l1,rdA,e1]
  refine Evt.ifp (by omega) (Evt.ifp (by omega) (Evt.ifn (by omega) ?_))
  rw[part_end _ _ _ _ (by omega),ite_self] at h
  exact h
 |succ m ih=>
  intro x acc hm h0 hc h
  refine Evt.step ?_
  simp only[toponymref03_Some.l1,rdA,e1]
  refine Evt.ifp (by omega) (Evt.ifp (by omega) (Evt.ifp (by omega) ?_))
  by_cases ha:(A l i).f2=a
  ·refine Evt.ifp ha ?_
   rw[if_pos ha] at h
   by_cases hlt:(acc.length:Int)<n
   ·refine Evt.ifp hlt (Evt.ifp (by omega) (Evt.bind (Evt.now (acc++[x])) ?_))
    rw[w32 _ (by omega)]
    refine ih (x+1) (acc++[x]) (by omega) (by omega) (by simp;omega) ?_
    rw[if_pos ha,← part_step _ _ _ _ (by omega) hlt]
    exact h
   ·rw[part_full _ _ _ _ hlt] at h
    exact Evt.ifn hlt h
  ·rw[if_neg ha] at h
   exact Evt.ifn ha h
theorem r0 (a n:Int) (l:List S38) (hl:l.length≤1000) (ho:ok l) (hn:n≤500):∀ m (i:Nat) (acc:List Int),m=l.length - i→i≤l.length→(acc.length:Int)≤n→
  Evt (fun k=>toponymref03_Some.l0 k acc i a n l) (some_ a n (l.drop i) acc):=by
 intro m
 induction m with
 |zero=>
  intro i acc hm hi hc
  have e:l.drop i=[]:=List.drop_eq_nil_of_le (by omega)
  rw[e]
  refine Evt.step ?_
  simp only[toponymref03_Some.l0,some_]
  exact Evt.ifn (by omega) (Evt.now _)
 |succ m ih=>
  intro i acc hm hi hc
  refine Evt.step ?_
  simp only[toponymref03_Some.l0,rdA]
  refine Evt.ifp (by omega) (Evt.ifp (by omega) (r1 a n l hl ho hn i (by omega) _ _ _ acc rfl (ho _ (A_mem l i (by omega))).1 hc ?_))
  rw[some_drop a n l i (by omega) acc]
  refine ih (i+1) _ (by omega) (by omega) ?_
  split
  ·exact part_len _ _ _ _ hc
  ·exact hc
theorem some_none (a n:Int) (ha:a<1):∀ (l:List S38),ok l→∀ acc,some_ a n l acc=acc
 |[],_,acc=>rfl
 |s::t,ho,acc=>by
  have hs:=ho s (by simp)
  rw[some_,if_neg (by omega)]
  exact some_none a n ha t (fun x hx=>ho x (by simp[hx])) acc
/-- What is told of a kind. -/
def told (a n:Int):List Int:=if n<1∨n>500 then[] else some_ a n R []
theorem some_c (a n:Int):Evt (fun k=>chars_Some.f k a n) (told a n):=by
 unfold chars_Some.f told
 by_cases h1:n<1
 ·rw[if_pos (.inl h1)]
  exact Evt.ifp h1 (Evt.now _)
 ·by_cases h2:n>500
  ·rw[if_pos (.inr h2)]
   exact Evt.ifn h1 (Evt.ifp h2 (Evt.now _))
  ·rw[if_neg (by omega)]
   refine Evt.ifn h1 (Evt.ifn h2 (Evt.bind table ?_))
   exact c0 a n R (by rw[R_len];omega) R_ok (by omega) _ 0 [] rfl (by omega) (by simp;omega)
theorem some_r (a n:Int):Evt (fun k=>toponymref03_Some.f k a n) (told a n):=by
 unfold toponymref03_Some.f told
 by_cases h1:n<1
 ·rw[if_pos (.inl h1)]
  exact Evt.ifp h1 (Evt.now _)
 ·by_cases h2:n>500
  ·rw[if_pos (.inr h2)]
   exact Evt.ifn h1 (Evt.ifp h2 (Evt.now _))
  ·rw[if_neg (by omega)]
   refine Evt.ifn h1 (Evt.ifn h2 ?_)
   by_cases h3:a<1
   ·rw[some_none a n h3 R R_ok]
    exact Evt.ifp h3 (Evt.now _)
   ·refine Evt.ifn h3 (Evt.bind rows ?_)
    exact r0 a n R (by rw[R_len];omega) R_ok (by omega) _ 0 [] rfl (by omega) (by simp;omega)
theorem some_len (a n:Int) (hn:0≤n):∀ (l:List S38) (acc:List Int),(acc.length:Int)≤n→((some_ a n l acc).length:Int)≤n
 |[],acc,h=>h
 |s::t,acc,h=>by
  rw[some_]
  refine some_len a n hn t _ ?_
  split
  ·exact part_len s.f0 s.f1 n acc h
  ·exact h
theorem told_len (a n:Int):(told a n).length≤500:=by
 unfold told
 split
 ·simp
 ·rename_i h
  have:=some_len a n (by omega) R [] (by simp;omega)
  omega
/-- A list is the same as itself. -/
theorem same_self (l:List Int) (hl:l.length≤1000):Evt (fun k=>toponymref01_Same.f k l l) true:=by
 have key:∀ m (i:Nat),m=l.length - i→i≤l.length→Evt (fun k=>toponymref01_Same.l0 k i l l) true:=by
  intro m
  induction m with
  |zero=>
   intro i hm hi
   refine Evt.step ?_
   simp only[toponymref01_Same.l0]
   exact Evt.ifn (by omega) (Evt.now _)
  |succ m ih=>
   intro i hm hi
   have e1:wrap64 ((i:Int)+1)=((i+1:Nat):Int):=by rw[w64 _ (by omega)];omega
   refine Evt.step ?_
   simp only[toponymref01_Same.l0,e1]
   exact Evt.ifp (by omega) (Evt.ifp (by omega) (Evt.ifp (by omega) (Evt.ifp (by first|rfl|trivial) (ih (i+1) (by omega) (by omega)))))
 unfold toponymref01_Same.f
 exact Evt.ifp (by first|rfl|trivial) (key _ 0 rfl (by omega))
theorem charsSome (a n:Int) {p0 p1:Prop} (_:p0) (_:p1):∃ k,toponymlaw03_CharsSome.f k a n=some true:=by
 refine Evt.get (f:=fun k=>toponymlaw03_CharsSome.f k a n) ?_
 unfold toponymlaw03_CharsSome.f
 refine Evt.bind (some_c a n) (Evt.bind (some_r a n) (Evt.bind (same_self _ (by have:=told_len a n;omega)) (Evt.ifp rfl (Evt.bind awake (Evt.now _)))))
end Go.Proofs.Ytkbiiijmgbjnkaa.Cs
