import Derived.Test.YtcokpnajkkjclaaSoC
/- The library's sort out of the walk: the recursion; slices.Sort gives the sorted row. -/
namespace Go.Proofs.Ytcokpnajkkjclaa.So
open Go Go.RowKit Go.Proofs.Ytcokpnajkkjclaa.GA Go.Proofs.Ytcokpnajkkjclaa.PuE Go.Proofs.YtcokpnajkkjclaaW.PrintWords Go.Proofs.YtcokpnajkkjclaaW.PrintLast Go.Proofs.YtcokpnajkkjclaaW.PrintMore
set_option linter.unusedVariables false
set_option linter.unusedSimpArgs false
theorem swo:Go.Sort.SWO lt:=Go.Sort.swo_ltInt
/-- What the recursion gives of a part. -/
def Good (a b:Nat) (d:Array E) (f:Nat→Option (List E)):Prop:=∃ R,Go.Sort.PermIn a b d R∧Go.Sort.SortedIn lt a b R∧Evt f R.toList
/-- What comes behind the tests of a round. -/
def tail (k:Nat) (x1 x2 p lim:Int) (x4 x5:Bool) (y l0:List E):Option (List E):=
 if x1>0 then(if 0≤(wrap64 (x1 - 1)) then(if (wrap64 (x1 - 1))<(l0.length:Int) then(if 0≤p then(if p<(l0.length:Int) then((cmp_Less_rune.f (rd y (wrap64 (x1 - 1))) (rd y p)).bind fun t106=>(if t106=true then((slices_partitionOrdered_rune.f k y x1 x2 p).bind fun bt110=>(if (wrap64 (bt110.1 - x1))<(wrap64 (x2 - bt110.1)) then((slices_pdqsortOrdered_rune.f k bt110.2.2 x1 bt110.1 lim).bind fun y120=>((slices_pdqsortOrdered_rune.l0 k (wrap64 (bt110.1+1)) x2 lim (decide ((wrap64 (bt110.1 - x1))≥(wrap64 (Int.tdiv (wrap64 (x2 - x1)) 8)))) bt110.2.1 y120 l0))) else((slices_pdqsortOrdered_rune.f k bt110.2.2 (wrap64 (bt110.1+1)) x2 lim).bind fun y127=>((slices_pdqsortOrdered_rune.l0 k x1 bt110.1 lim (decide ((wrap64 (x2 - bt110.1))≥(wrap64 (Int.tdiv (wrap64 (x2 - x1)) 8)))) bt110.2.1 y127 l0))))) else((slices_partitionEqualOrdered_rune.f k y x1 x2 p).bind fun bt133=>((slices_pdqsortOrdered_rune.l0 k bt133.1 x2 lim x4 x5 bt133.2 l0))))) else(none)) else(none)) else(none)) else(none)) else((slices_partitionOrdered_rune.f k y x1 x2 p).bind fun bt147=>(if (wrap64 (bt147.1 - x1))<(wrap64 (x2 - bt147.1)) then((slices_pdqsortOrdered_rune.f k bt147.2.2 x1 bt147.1 lim).bind fun y157=>((slices_pdqsortOrdered_rune.l0 k (wrap64 (bt147.1+1)) x2 lim (decide ((wrap64 (bt147.1 - x1))≥(wrap64 (Int.tdiv (wrap64 (x2 - x1)) 8)))) bt147.2.1 y157 l0))) else((slices_pdqsortOrdered_rune.f k bt147.2.2 (wrap64 (bt147.1+1)) x2 lim).bind fun y164=>((slices_pdqsortOrdered_rune.l0 k x1 bt147.1 lim (decide ((wrap64 (x2 - bt147.1))≥(wrap64 (Int.tdiv (wrap64 (x2 - x1)) 8)))) bt147.2.1 y164 l0)))))
/-- The round with its tail by name. -/
theorem round (k:Nat) (x1 x2 x3:Int) (x4 x5:Bool) (x6 l0:List E):slices_pdqsortOrdered_rune.l0 (k+1) x1 x2 x3 x4 x5 x6 l0=
  if (wrap64 (x2 - x1))≤12 then((slices_insertionSortOrdered_rune.f k x6 x1 x2).bind fun y12=>(some y12)) else(if x3=0 then((slices_heapSortOrdered_rune.f k x6 x1 x2).bind fun y21=>(some y21)) else((if x4=true then(some (x3,x6)) else((slices_breakPatternsOrdered_rune.f k x6 x1 x2).bind fun y39=>(some (wrap64 (x3 - 1),y39)))).bind fun bx34=>((slices_choosePivotOrdered_rune.f bx34.2 x1 x2).bind fun bt47=>((if bt47.2=2 then((slices_reverseRangeOrdered_rune.f k bx34.2 x1 x2).bind fun y70=>(some (wrap64 ((wrap64 (x2 - 1)) - (wrap64 (bt47.1 - x1))),(1:Int),y70))) else(some (bt47.1,bt47.2,bx34.2))).bind fun bx62=>((if x4=true then(if x5=true then(some (bx62.2.1==1)) else(some (false))) else(some (false))).bind fun x79=>(if x79=true then((slices_partialInsertionSortOrdered_rune.f k bx62.2.2 x1 x2).bind fun bt85=>(if bt85.1=true then(some bt85.2) else tail k x1 x2 bx62.1 bx34.1 x4 x5 bt85.2 l0)) else tail k x1 x2 bx62.1 bx34.1 x4 x5 bx62.2.2 l0)))))):=by
 rfl
theorem parts (L:List E) (a b p lim:Nat) (d:Array E) (hn:L.length≤512) (hd:d.size=L.length) (hb:b≤L.length) (hp1:a≤p) (hp2:p<b) (hB:Go.Sort.Below lt a b d)
  (ih:∀ (a2 b2:Nat) (wb wp:Bool) (d2:Array E) (L2:List E),b2 - a2<b - a→a2≤b2→b2≤L2.length→L2.length≤512→d2.size=L2.length→Go.Sort.Below lt a2 b2 d2→Good a2 b2 d2 (fun k=>slices_pdqsortOrdered_rune.l0 k a2 b2 lim wb wp d2.toList L2)):
  Good a b d (fun k=>(slices_partitionOrdered_rune.f k d.toList a b p).bind fun bt147=>(if (wrap64 (bt147.1 - a))<(wrap64 (b - bt147.1)) then((slices_pdqsortOrdered_rune.f k bt147.2.2 a bt147.1 lim).bind fun y157=>((slices_pdqsortOrdered_rune.l0 k (wrap64 (bt147.1+1)) b lim (decide ((wrap64 (bt147.1 - a))≥(wrap64 (Int.tdiv (wrap64 ((b:Int) - (a:Int))) 8)))) bt147.2.1 y157 L))) else((slices_pdqsortOrdered_rune.f k bt147.2.2 (wrap64 (bt147.1+1)) b lim).bind fun y164=>((slices_pdqsortOrdered_rune.l0 k a bt147.1 lim (decide ((wrap64 (b - bt147.1))≥(wrap64 (Int.tdiv (wrap64 ((b:Int) - (a:Int))) 8)))) bt147.2.1 y164 L))))):=by
 obtain⟨mid,ap,d4,hx⟩:∃ mid ap d4,Go.Sort.partition lt d a b p=(mid,ap,d4):=⟨_,_,_,rfl⟩
 obtain⟨h1,h2,hs4,hBl,hBr,hl,hr⟩:=Go.Sort.round_part swo (Go.Sort.partition_holds lt) hp1 hp2 (by omega) hB hx
 have hE:=partition d a b p (by omega) hp1 hp2 (by omega)
 rw[hx] at hE
 simp only[] at hE
 have e1:=wp mid (by omega)
 have e2:=wsub mid a (by omega) h1
 have e3:=wsub b mid (by omega) (by omega)
 have V:=Veil.mk (And.intro e1 (And.intro e2 e3))
 clear e1 e2 e3
 have call:∀ (a2 b2:Nat),b2 - a2<b - a→a2≤b2→b2≤d4.size→Go.Sort.Below lt a2 b2 d4→Good a2 b2 d4 (fun k=>slices_pdqsortOrdered_rune.f k d4.toList a2 b2 lim):=by
  intro a2 b2 g1 g2 g3 g4
  obtain⟨R,q1,q2,q3⟩:=ih a2 b2 true true d4 d4.toList g1 g2 (by simpa using g3) (by simp;omega) (by simp) g4
  exact⟨R,q1,q2,Evt.step q3⟩
 by_cases hm:mid - a<b - mid
 ·obtain⟨R1,q1,q2,q3⟩:=call a mid (by omega) h1 (by omega) hBl
  obtain⟨hB1,hfin⟩:=hl R1 q1 q2
  have hs1:=q1.1
  obtain⟨R,p1,p2,p3⟩:=ih (mid+1) b (decide (((mid - a:Nat):Int)≥wrap64 (Int.tdiv (wrap64 ((b:Int) - (a:Int))) 8))) ap R1 L (by omega) (by omega) hb hn (by omega) hB1
  obtain⟨f1,f2⟩:=hfin R p1 p2
  refine⟨R,f1,f2,Evt.bind hE ?_⟩
  dsimp only
  rw[V.out.1,V.out.2.1,V.out.2.2]
  exact Evt.ifp (by omega) (Evt.bind q3 p3)
 ·obtain⟨R1,q1,q2,q3⟩:=call (mid+1) b (by omega) (by omega) (by omega) hBr
  obtain⟨hB1,hfin⟩:=hr R1 q1 q2
  have hs1:=q1.1
  obtain⟨R,p1,p2,p3⟩:=ih a mid (decide (((b - mid:Nat):Int)≥wrap64 (Int.tdiv (wrap64 ((b:Int) - (a:Int))) 8))) ap R1 L (by omega) h1 (by omega) hn (by omega) hB1
  obtain⟨f1,f2⟩:=hfin R p1 p2
  refine⟨R,f1,f2,Evt.bind hE ?_⟩
  dsimp only
  rw[V.out.1,V.out.2.1,V.out.2.2]
  exact Evt.ifn (by omega) (Evt.bind q3 p3)
theorem tail_ok (L:List E) (a b p lim:Nat) (wb wp:Bool) (d:Array E) (hn:L.length≤512) (hd:d.size=L.length) (hb:b≤L.length) (hp1:a≤p) (hp2:p<b) (hB:Go.Sort.Below lt a b d)
  (ih:∀ (a2 b2:Nat) (wb wp:Bool) (d2:Array E) (L2:List E),b2 - a2<b - a→a2≤b2→b2≤L2.length→L2.length≤512→d2.size=L2.length→Go.Sort.Below lt a2 b2 d2→Good a2 b2 d2 (fun k=>slices_pdqsortOrdered_rune.l0 k a2 b2 lim wb wp d2.toList L2)):
  Good a b d (fun k=>tail k a b p lim wb wp d.toList L):=by
 obtain⟨RP,r1,r2,r3⟩:=parts L a b p lim d hn hd hb hp1 hp2 hB ih
 unfold tail
 by_cases ha:a=0
 ·subst ha
  exact⟨RP,r1,r2,Evt.ifn (by omega) r3⟩
 ·obtain⟨q,rfl⟩:∃ q,a=q+1:=⟨a - 1,by omega⟩
  rw[wm q (by omega),rdA d q (by omega),rdA d p (by omega),less]
  by_cases hl:lt d[q]! d[p]! =true
  ·exact⟨RP,r1,r2,Evt.ifp (by omega) (four (by omega) (by omega) (by omega) (by omega) (Evt.bind (Evt.now _) (Evt.ifp hl r3)))⟩
  ·obtain⟨mid,d4,hx⟩:∃ mid d4,Go.Sort.partitionEqual lt d (q+1) b p=(mid,d4):=⟨_,_,rfl⟩
   obtain⟨h1,h2,hs4,hB4,hfin⟩:=Go.Sort.round_eq swo (Go.Sort.partitionEqual_holds lt) (by omega) hp1 hp2 (by omega) hB (by simpa using hl) hx
   have hE:=partitionEqual d (q+1) b p (by omega) hp1 hp2 (by omega)
   rw[hx] at hE
   simp only[] at hE
   obtain⟨R,p1,p2,p3⟩:=ih mid b wb wp d4 L (by omega) h2 hb hn (by omega) hB4
   obtain⟨f1,f2⟩:=hfin R p1 p2
   exact⟨R,f1,f2,Evt.ifp (by omega) (four (by omega) (by omega) (by omega) (by omega) (Evt.bind (Evt.now _) (Evt.ifn hl (Evt.bind hE p3))))⟩
theorem pdq0:∀ (m a b lim:Nat) (wb wp:Bool) (d:Array E) (L:List E),b - a≤m→a≤b→b≤L.length→L.length≤512→d.size=L.length→lim≤64→Go.Sort.Below lt a b d→
  Good a b d (fun k=>slices_pdqsortOrdered_rune.l0 k a b lim wb wp d.toList L):=by
 intro m
 induction m using Nat.strongRecOn with
 |ind m IH=>
  intro a b lim wb wp d L hm hab hb hn hd hlim hB
  have small:b - a≤12→Good a b d (fun k=>slices_pdqsortOrdered_rune.l0 k a b lim wb wp d.toList L):=by
   intro h12
   obtain⟨h1,h2⟩:=Go.Sort.insertionSort_holds swo d a b hab (by omega)
   refine⟨_,h1,h2,Evt.step ?_⟩
   simp only[round,wsub b a (by omega) hab]
   exact Evt.ifp (by omega) (Evt.bind (insertionSort d a b (by omega) hab (by omega)) (Evt.now _))
  by_cases h12:b - a≤12
  ·exact small h12
  by_cases hl0:lim=0
  ·obtain⟨h1,h2⟩:=Go.Sort.heapSort_holds swo d a b hab (by omega)
   refine⟨_,h1,h2,Evt.step ?_⟩
   simp only[round,wsub b a (by omega) hab]
   exact Evt.ifn (by omega) (Evt.ifp (by omega) (Evt.bind (heapSort d a b (by omega) (by omega) (by omega)) (Evt.now _)))
  -- the patterns
  obtain⟨d1,lim1,hl1,hp1,hE1⟩:∃ (d1:Array E) (lim1:Nat),lim1≤64∧Go.Sort.PermIn a b d d1∧
    Evt (fun k=>if wb=true then(some ((lim:Int),d.toList)) else((slices_breakPatternsOrdered_rune.f k d.toList a b).bind fun y39=>(some (wrap64 ((lim:Int) - 1),y39)))) ((lim1:Int),d1.toList):=by
   by_cases hw:wb=true
   ·exact⟨d,lim,hlim,Go.Sort.permIn_refl d a b,Evt.ifp hw (Evt.now _)⟩
   ·obtain⟨d1,hp,hE⟩:=breakPatterns d a b (by omega) (by omega) (by omega)
    refine⟨d1,lim - 1,by omega,hp,Evt.ifn hw (Evt.bind hE ((Evt.now _).val ?_))⟩
    rw[show wrap64 ((lim:Int) - 1)=((lim - 1:Nat):Int) by rw[w64 _ (by omega)];omega]
  have hs1:=hp1.1
  have hB1:=Go.Sort.Below.perm hB (by omega) hp1
  obtain⟨pv,h,hpv,hv1,hv2⟩:=choosePivot d1.toList a b (by simp;omega) (by omega) (by simp;omega)
  obtain⟨d2,p2,h2,hp2,hq1,hq2,hE2⟩:∃ (d2:Array E) (p2:Nat) (h2:Int),Go.Sort.PermIn a b d1 d2∧a≤p2∧p2<b∧
    Evt (fun k=>if h=2 then((slices_reverseRangeOrdered_rune.f k d1.toList a b).bind fun y70=>(some (wrap64 ((wrap64 ((b:Int) - 1)) - (wrap64 ((pv:Int) - (a:Int)))),(1:Int),y70))) else(some ((pv:Int),h,d1.toList))) ((p2:Int),h2,d2.toList):=by
   by_cases hh:h=2
   ·refine⟨_,(b - 1) - (pv - a),1,Go.Sort.reverseRange_holds d1 a b hab (by omega),by omega,by omega,Evt.ifp hh (Evt.bind (reverseRange d1 a b (by omega) (by omega) (by omega)) ((Evt.now _).val ?_))⟩
    have k1:b - 1≤4000000:=by omega
    have k2:pv - a≤b - 1:=by omega
    have e1:wrap64 ((b:Int) - 1)=((b - 1:Nat):Int):=by rw[w64 _ (by omega)];omega
    rw[e1]
    clear e1
    rw[wsub pv a (by omega) hv1,wsub (b - 1) (pv - a) k1 k2]
   ·exact⟨d1,pv,h,Go.Sort.permIn_refl d1 a b,hv1,hv2,Evt.ifn hh (Evt.now _)⟩
  have hs2:=hp2.1
  have hB2:=Go.Sort.Below.perm hB1 (by omega) hp2
  have hp12:=Go.Sort.permIn_trans _ _ _ a b hp1 hp2
  have ih:∀ (a2 b2:Nat) (wb wp:Bool) (d2:Array E) (L2:List E),b2 - a2<b - a→a2≤b2→b2≤L2.length→L2.length≤512→d2.size=L2.length→Go.Sort.Below lt a2 b2 d2→Good a2 b2 d2 (fun k=>slices_pdqsortOrdered_rune.l0 k a2 b2 lim1 wb wp d2.toList L2):=
   fun a2 b2 wb wp d2 L2 g1 g2 g3 g4 g5 g6=>IH (b2 - a2) (by omega) a2 b2 lim1 wb wp d2 L2 (Nat.le_refl _) g2 g3 g4 g5 hl1 g6
  obtain⟨t,ht⟩:∃ t:Bool,(if wb=true then(if wp=true then(some (h2==1)) else(some (false))) else(some (false)))=some t:=by
   split
   ·split
    ·exact⟨_,rfl⟩
    ·exact⟨_,rfl⟩
   ·exact⟨_,rfl⟩
  have head:∀ v,Evt (fun k=>if t=true then((slices_partialInsertionSortOrdered_rune.f k d2.toList a b).bind fun bt85=>(if bt85.1=true then(some bt85.2) else tail k a b p2 lim1 wb wp bt85.2 L)) else tail k a b p2 lim1 wb wp d2.toList L) v→
    Evt (fun k=>slices_pdqsortOrdered_rune.l0 k a b lim wb wp d.toList L) v:=by
   intro v hv
   refine Evt.step ?_
   simp only[round,wsub b a (by omega) hab]
   exact Evt.ifn (by omega) (Evt.ifn (by omega) (Evt.bind hE1 (Evt.bind (Evt.of_all fun _=>hpv) (Evt.bind hE2 (Evt.bind (Evt.of_all fun _=>ht) hv)))))
  by_cases htt:t=true
  ·have hpi:=Go.Sort.partialInsertionSort_holds swo d2 a b (by omega) (by omega) hB2
   have hE3:=partialInsertionSort d2 a b (by omega) (by omega) (by omega)
   have hs3:=hpi.1.1
   by_cases hdone:(Go.Sort.partialInsertionSort lt d2 a b).2=true
   ·exact⟨_,Go.Sort.permIn_trans _ _ _ a b hp12 hpi.1,hpi.2 hdone,head _ (Evt.ifp htt (Evt.bind hE3 (Evt.ifp hdone (Evt.now _))))⟩
   ·obtain⟨R,f1,f2,f3⟩:=tail_ok L a b p2 lim1 wb wp (Go.Sort.partialInsertionSort lt d2 a b).1 hn (by omega) hb hq1 hq2 (Go.Sort.Below.perm hB2 (by omega) hpi.1) ih
    exact⟨R,Go.Sort.permIn_trans _ _ _ a b hp12 (Go.Sort.permIn_trans _ _ _ a b hpi.1 f1),f2,head _ (Evt.ifp htt (Evt.bind hE3 (Evt.ifn hdone f3)))⟩
  ·obtain⟨R,f1,f2,f3⟩:=tail_ok L a b p2 lim1 wb wp d2 hn (by omega) hb hq1 hq2 hB2 ih
   exact⟨R,Go.Sort.permIn_trans _ _ _ a b hp12 f1,f2,head _ (Evt.ifn htt f3)⟩
def lenOk (n:Nat):Bool:=match bits_Len.f (IntKind.u64.wrap (n:Int)) with|some t=>decide (0≤t) && decide (t≤64)|none=>false
theorem len_all:∀ n ∈ List.range 513,lenOk n=true:=by decide+kernel
/-- The row in order. -/
def sorted (l:List E):List E:=l.mergeSort (fun x y=>decide (x≤y))
theorem sort (l:List E) (hn:l.length≤512):∃ R:List E,R.Perm l∧R.Pairwise (· ≤ ·)∧Evt (fun k=>slices_Sort_rune_rune.f k l) R:=by
 have h1:=len_all l.length (List.mem_range.2 (by omega))
 unfold lenOk at h1
 split at h1
 ·rename_i t ht
  simp only[Bool.and_eq_true,decide_eq_true_eq] at h1
  obtain⟨q,rfl⟩:∃ q:Nat,t=(q:Int):=⟨t.toNat,by omega⟩
  obtain⟨R,p1,p2,p3⟩:=pdq0 _ 0 l.length q true true l.toArray l (Nat.le_refl _) (Nat.zero_le _) (Nat.le_refl _) hn (by simp) (by omega) (.inl rfl)
  refine⟨R.toList,?_,?_,?_⟩
  ·have h3:=p1.2.2
   have hs:R.size=l.length:=by rw[p1.1];simp
   rw[show l.length=l.toArray.size by simp,Array.extract_size] at h3
   rw[show l.toArray.size=R.size by rw[hs];simp,Array.extract_size] at h3
   simpa using h3
  ·rw[List.pairwise_iff_getElem]
   intro i j hi hj hij
   have hs:R.size=l.length:=by rw[p1.1];simp
   have hi':i<R.size:=by simpa using hi
   have hj':j<R.size:=by simpa using hj
   have:=p2 i j (Nat.zero_le _) hij (by omega)
   simp[Go.Sort.ltInt,hi',hj'] at this
   simpa using this
  ·unfold slices_Sort_rune_rune.f
   refine Evt.bind (Evt.of_all fun _=>ht) (Evt.bind (Evt.step ?_) (Evt.now _))
   have p4:=p3
   simp only[List.toList_toArray] at p4
   exact p4
 ·cases h1
end Go.Proofs.Ytcokpnajkkjclaa.So
