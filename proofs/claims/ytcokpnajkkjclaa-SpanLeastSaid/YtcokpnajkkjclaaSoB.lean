import Derived.Test.YtcokpnajkkjclaaSoA
/- The library's sort out of the walk: the partitions, partialInsertionSort. -/
namespace Go.Proofs.Ytcokpnajkkjclaa.So
open Go Go.RowKit Go.Proofs.Ytcokpnajkkjclaa.GA Go.Proofs.Ytcokpnajkkjclaa.PuE Go.Proofs.YtcokpnajkkjclaaW.PrintWords Go.Proofs.YtcokpnajkkjclaaW.PrintLast Go.Proofs.YtcokpnajkkjclaaW.PrintMore
set_option linter.unusedVariables false
set_option linter.unusedSimpArgs false
theorem scanUp_top (p:E→Bool) (d:Array E) (j:Nat):∀ (m i:Nat),m=j+1 - i→i≤j+1→Go.Sort.scanUp p d j i≤j+1:=by
 intro m
 induction m with
 |zero=>intro i hm hi;rw[Go.Sort.scanUp,if_neg (by simp;omega)];exact hi
 |succ m ih=>
  intro i hm hi
  rw[Go.Sort.scanUp]
  split
  ·exact ih (i+1) (by omega) (by omega)
  ·exact hi
theorem scanUp_max (p:E→Bool) (d:Array E) (j:Nat):∀ (m i:Nat),m=j+1 - i→Go.Sort.scanUp p d j i≤max i (j+1):=by
 intro m
 induction m with
 |zero=>intro i hm;rw[Go.Sort.scanUp,if_neg (by simp;omega)];omega
 |succ m ih=>
  intro i hm
  rw[Go.Sort.scanUp]
  split
  ·have:=ih (i+1) (by omega)
   omega
  ·omega
/-! ### partitionEqual -/
theorem eqUp (L:List E) (a:Nat) (hn:L.length≤1000000) (ha:a<L.length) (j:Nat) (hj:j<L.length) (d:Array E) (hd:d.size=L.length) (v:Int × List E):∀ (m i:Nat),m=j+1 - i→i≤1000001→
  Evt (fun k=>slices_partitionEqualOrdered_rune.l2 k j a L d.toList (Go.Sort.scanUp (fun x=> !lt d[a]! x) d j i:Nat)) v→Evt (fun k=>slices_partitionEqualOrdered_rune.l1 k i a L j d.toList) v:=by
 intro m
 induction m with
 |zero=>
  intro i hm hi h
  rw[Go.Sort.scanUp,if_neg (by simp;omega)] at h
  refine Evt.step ?_
  simp only[slices_partitionEqualOrdered_rune.l1]
  exact Evt.bind (v:=false) (Evt.of_all fun k=>if_neg (by omega)) (Evt.ifn (by simp) h)
 |succ m ih=>
  intro i hm hi h
  refine Evt.step ?_
  simp only[slices_partitionEqualOrdered_rune.l1,wp i (by omega),rdA d a (by omega),rdA d i (by omega)]
  refine Evt.bind (Evt.of_all fun k=>tst (fun hc=>⟨by omega,by omega,by omega,by omega⟩) (lessF _ _)) ?_
  have e:decide ((i:Int)≤(j:Int))=decide (i≤j):=decide_eq_decide.2 (by omega)
  rw[e]
  rw[Go.Sort.scanUp] at h
  by_cases hb:(decide (i≤j) && !lt d[a]! d[i]!)=true
  ·rw[if_pos hb] at h
   exact Evt.ifp hb (ih (i+1) (by omega) (by omega) h)
  ·rw[if_neg hb] at h
   exact Evt.ifn hb h
theorem eqDown (L:List E) (a:Nat) (hn:L.length≤1000000) (ha:a<L.length) (d:Array E) (hd:d.size=L.length) (v:Int × List E) (i:Nat) (hi:1≤i) (hi2:i≤1000002):∀ (j:Nat),j<L.length→
  (i>Go.Sort.scanDown (fun x=>lt d[a]! x) d i j→v=((i:Int),d.toList))→(¬ i>Go.Sort.scanDown (fun x=>lt d[a]! x) d i j→
   Evt (fun k=>slices_partitionEqualOrdered_rune.l0 k (i+1:Nat) (Go.Sort.scanDown (fun x=>lt d[a]! x) d i j - 1:Nat) (swp d i (Go.Sort.scanDown (fun x=>lt d[a]! x) d i j)).toList a L) v)→
  Evt (fun k=>slices_partitionEqualOrdered_rune.l2 k j a L d.toList i) v:=by
 intro j
 induction j with
 |zero=>
  intro hj h1 h2
  refine Evt.step ?_
  simp only[slices_partitionEqualOrdered_rune.l2]
  refine Evt.bind (v:=false) (Evt.of_all fun k=>if_neg (by omega)) (Evt.ifn (by simp) ?_)
  refine Evt.ifp (by omega) ((Evt.now _).val (h1 ?_).symm)
  show i>0
  omega
 |succ j ih=>
  intro hj h1 h2
  refine Evt.step ?_
  simp only[slices_partitionEqualOrdered_rune.l2,wm j (by omega),wp i (by omega)]
  refine Evt.bind (Evt.of_all fun k=>tst (fun hc=>⟨by omega,by omega,by omega,by omega⟩) (lessT _ _)) ?_
  have e:decide ((i:Int)≤((j+1:Nat):Int))=decide (i≤j+1):=decide_eq_decide.2 (by omega)
  rw[e,rdA d a (by omega),rdA d (j+1) (by omega)]
  unfold Go.Sort.scanDown at h1 h2
  by_cases hb:(decide (i≤j+1) && lt d[a]! d[j+1]!)=true
  ·rw[if_pos hb] at h1 h2
   exact Evt.ifp hb (ih (by omega) h1 h2)
  ·rw[if_neg hb] at h1 h2
   refine Evt.ifn hb ?_
   by_cases hij:i>j+1
   ·exact Evt.ifp (by omega) ((Evt.now _).val (h1 hij).symm)
   ·simp only[rdA d i (by omega),nat_nat,Option.bind_some,setA]
    exact Evt.ifn (by omega) (four (by omega) (by omega) (by omega) (by omega) (h2 hij))
theorem eqLoop (L:List E) (a:Nat) (hn:L.length≤1000000) (ha:a<L.length):∀ (m i j:Nat) (d:Array E),j+1 - i≤m→1≤i→i≤1000001→j<L.length→d.size=L.length→
  Evt (fun k=>slices_partitionEqualOrdered_rune.l0 k i j d.toList a L) (((Go.Sort.partEqLoop lt a i j d).1:Int),(Go.Sort.partEqLoop lt a i j d).2.toList):=by
 intro m
 induction m with
 |zero=>
  intro i j d hm hi hi2 hj hd
  have hge:=Go.Sort.scanUp_ge (fun x=> !lt d[a]! x) d j i
  have hle:=Go.Sort.scanDown_le (fun x=>lt d[a]! x) d (Go.Sort.scanUp (fun x=> !lt d[a]! x) d j i) j
  have htop:=scanUp_max (fun x=> !lt d[a]! x) d j _ i rfl
  rw[Go.Sort.partEqLoop_eq,if_pos (by omega)]
  refine Evt.step ?_
  simp only[slices_partitionEqualOrdered_rune.l0]
  refine eqUp L a hn ha j hj d hd _ _ i rfl hi2 (eqDown L a hn ha d hd _ _ (by omega) (by omega) j hj (fun _=>rfl) (fun h=>absurd h (by omega)))
 |succ m ih=>
  intro i j d hm hi hi2 hj hd
  have hge:=Go.Sort.scanUp_ge (fun x=> !lt d[a]! x) d j i
  have hle:=Go.Sort.scanDown_le (fun x=>lt d[a]! x) d (Go.Sort.scanUp (fun x=> !lt d[a]! x) d j i) j
  have htop:=scanUp_max (fun x=> !lt d[a]! x) d j _ i rfl
  refine Evt.step ?_
  simp only[slices_partitionEqualOrdered_rune.l0]
  refine eqUp L a hn ha j hj d hd _ _ i rfl hi2 (eqDown L a hn ha d hd _ _ (by omega) (by omega) j hj (fun h=>?_) (fun h=>?_))
  ·rw[Go.Sort.partEqLoop_eq,if_pos h]
  ·rw[Go.Sort.partEqLoop_eq,if_neg h]
   exact ih _ _ _ (by omega) (by omega) (by omega) (by omega) (by rw[size_swp];exact hd)
theorem partitionEqual (d:Array E) (a b p:Nat) (hn:d.size≤1000000) (h1:a≤p) (h2:p<b) (hb:b≤d.size):
  Evt (fun k=>slices_partitionEqualOrdered_rune.f k d.toList a b p) (((Go.Sort.partitionEqual lt d a b p).1:Int),(Go.Sort.partitionEqual lt d a b p).2.toList):=by
 unfold slices_partitionEqualOrdered_rune.f Go.Sort.partitionEqual
 have hl:d.toList.length=d.size:=by simp
 have e1:wrap64 ((b:Int) - 1)=((b - 1:Nat):Int):=by rw[w64 _ (by omega)];omega
 simp only[wp a (by omega),e1,rdA d a (by omega),rdA d p (by omega),nat_nat,Option.bind_some,setA]
 clear e1
 exact four (by omega) (by omega) (by omega) (by omega) (eqLoop d.toList a (by omega) (by omega) _ (a+1) (b - 1) (swp d a p) (Nat.le_refl _) (by omega) (by omega) (by omega) (by rw[size_swp];exact hl.symm))
/-! ### partition -/
theorem pUp (L:List E) (a:Nat) (hn:L.length≤1000000) (ha:a<L.length) (j:Nat) (hj:j<L.length) (d:Array E) (hd:d.size=L.length) (v:Int × Bool × List E):∀ (m i:Nat),m=j+1 - i→i≤1000001→
  Evt (fun k=>slices_partitionOrdered_rune.l4 k j a L d.toList (Go.Sort.scanUp (fun x=>lt x d[a]!) d j i:Nat)) v→Evt (fun k=>slices_partitionOrdered_rune.l3 k i a L j d.toList) v:=by
 intro m
 induction m with
 |zero=>
  intro i hm hi h
  rw[Go.Sort.scanUp,if_neg (by simp;omega)] at h
  refine Evt.step ?_
  simp only[slices_partitionOrdered_rune.l3]
  exact Evt.bind (v:=false) (Evt.of_all fun k=>if_neg (by omega)) (Evt.ifn (by simp) h)
 |succ m ih=>
  intro i hm hi h
  refine Evt.step ?_
  simp only[slices_partitionOrdered_rune.l3,wp i (by omega),rdA d a (by omega),rdA d i (by omega)]
  refine Evt.bind (Evt.of_all fun k=>tst (fun hc=>⟨by omega,by omega,by omega,by omega⟩) (lessT _ _)) ?_
  have e:decide ((i:Int)≤(j:Int))=decide (i≤j):=decide_eq_decide.2 (by omega)
  rw[e]
  rw[Go.Sort.scanUp] at h
  by_cases hb:(decide (i≤j) && lt d[i]! d[a]!)=true
  ·rw[if_pos hb] at h
   exact Evt.ifp hb (ih (i+1) (by omega) (by omega) h)
  ·rw[if_neg hb] at h
   exact Evt.ifn hb h
theorem pDown (L:List E) (a:Nat) (hn:L.length≤1000000) (ha:a<L.length) (d:Array E) (hd:d.size=L.length) (v:Int × Bool × List E) (i:Nat) (hi:1≤i) (hi2:i≤1000002):∀ (j:Nat),j<L.length→
  (i>Go.Sort.scanDown (fun x=> !lt x d[a]!) d i j→v=(((Go.Sort.scanDown (fun x=> !lt x d[a]!) d i j:Nat):Int),false,(swp d (Go.Sort.scanDown (fun x=> !lt x d[a]!) d i j) a).toList))→(¬ i>Go.Sort.scanDown (fun x=> !lt x d[a]!) d i j→
   Evt (fun k=>slices_partitionOrdered_rune.l2 k (i+1:Nat) (Go.Sort.scanDown (fun x=> !lt x d[a]!) d i j - 1:Nat) (swp d i (Go.Sort.scanDown (fun x=> !lt x d[a]!) d i j)).toList a L) v)→
  Evt (fun k=>slices_partitionOrdered_rune.l4 k j a L d.toList i) v:=by
 intro j
 induction j with
 |zero=>
  intro hj h1 h2
  refine Evt.step ?_
  simp only[slices_partitionOrdered_rune.l4]
  refine Evt.bind (v:=false) (Evt.of_all fun k=>if_neg (by omega)) (Evt.ifn (by simp) ?_)
  simp only[rdA d a (by omega),rdA d 0 (by omega),nat_nat,Option.bind_some,setA]
  refine Evt.ifp (by omega) (four (by omega) (by omega) (by omega) (by omega) ((Evt.now _).val (h1 ?_).symm))
  show i>0
  omega
 |succ j ih=>
  intro hj h1 h2
  refine Evt.step ?_
  simp only[slices_partitionOrdered_rune.l4,wm j (by omega),wp i (by omega),rdA d a (by omega),rdA d (j+1) (by omega)]
  refine Evt.bind (Evt.of_all fun k=>tst (fun hc=>⟨by omega,by omega,by omega,by omega⟩) (lessF _ _)) ?_
  have e:decide ((i:Int)≤((j+1:Nat):Int))=decide (i≤j+1):=decide_eq_decide.2 (by omega)
  rw[e]
  unfold Go.Sort.scanDown at h1 h2
  by_cases hb:(decide (i≤j+1) && !lt d[j+1]! d[a]!)=true
  ·rw[if_pos hb] at h1 h2
   exact Evt.ifp hb (ih (by omega) h1 h2)
  ·rw[if_neg hb] at h1 h2
   refine Evt.ifn hb ?_
   by_cases hij:i>j+1
   ·simp only[nat_nat,Option.bind_some,setA]
    exact Evt.ifp (by omega) (four (by omega) (by omega) (by omega) (by omega) ((Evt.now _).val (h1 hij).symm))
   ·simp only[rdA d i (by omega),nat_nat,Option.bind_some,setA]
    exact Evt.ifn (by omega) (four (by omega) (by omega) (by omega) (by omega) (h2 hij))
theorem pLoop (L:List E) (a:Nat) (hn:L.length≤1000000) (ha:a<L.length):∀ (m i j:Nat) (d:Array E),j+1 - i≤m→1≤i→i≤1000001→j<L.length→d.size=L.length→
  Evt (fun k=>slices_partitionOrdered_rune.l2 k i j d.toList a L) (((Go.Sort.partLoop lt a i j d).1:Int),false,(swp (Go.Sort.partLoop lt a i j d).2 (Go.Sort.partLoop lt a i j d).1 a).toList):=by
 intro m
 induction m with
 |zero=>
  intro i j d hm hi hi2 hj hd
  have hge:=Go.Sort.scanUp_ge (fun x=>lt x d[a]!) d j i
  have hle:=Go.Sort.scanDown_le (fun x=> !lt x d[a]!) d (Go.Sort.scanUp (fun x=>lt x d[a]!) d j i) j
  have htop:=scanUp_max (fun x=>lt x d[a]!) d j _ i rfl
  rw[Go.Sort.partLoop_eq,if_pos (by omega)]
  refine Evt.step ?_
  simp only[slices_partitionOrdered_rune.l2]
  refine pUp L a hn ha j hj d hd _ _ i rfl hi2 (pDown L a hn ha d hd _ _ (by omega) (by omega) j hj (fun _=>rfl) (fun h=>absurd h (by omega)))
 |succ m ih=>
  intro i j d hm hi hi2 hj hd
  have hge:=Go.Sort.scanUp_ge (fun x=>lt x d[a]!) d j i
  have hle:=Go.Sort.scanDown_le (fun x=> !lt x d[a]!) d (Go.Sort.scanUp (fun x=>lt x d[a]!) d j i) j
  have htop:=scanUp_max (fun x=>lt x d[a]!) d j _ i rfl
  refine Evt.step ?_
  simp only[slices_partitionOrdered_rune.l2]
  refine pUp L a hn ha j hj d hd _ _ i rfl hi2 (pDown L a hn ha d hd _ _ (by omega) (by omega) j hj (fun h=>?_) (fun h=>?_))
  ·rw[Go.Sort.partLoop_eq,if_pos h]
  ·rw[Go.Sort.partLoop_eq,if_neg h]
   exact ih _ _ _ (by omega) (by omega) (by omega) (by omega) (by rw[size_swp];exact hd)
theorem pUp0 (L:List E) (a b:Nat) (hn:L.length≤1000000) (ha:a<b) (hb:b≤L.length) (d:Array E) (hd:d.size=L.length) (v:Int × Bool × List E):∀ (m i:Nat),m=b - 1+1 - i→i≤1000001→
  Evt (fun k=>slices_partitionOrdered_rune.l1 k (b - 1:Nat) a L (Go.Sort.scanUp (fun x=>lt x d[a]!) d (b - 1) i:Nat) d.toList) v→Evt (fun k=>slices_partitionOrdered_rune.l0 k i a b L d.toList) v:=by
 intro m
 induction m with
 |zero=>
  intro i hm hi h
  rw[Go.Sort.scanUp,if_neg (by simp;omega)] at h
  refine Evt.step ?_
  have e1:wrap64 ((b:Int) - 1)=((b - 1:Nat):Int):=by rw[w64 _ (by omega)];omega
  simp only[slices_partitionOrdered_rune.l0,e1]
  clear e1
  exact Evt.bind (v:=false) (Evt.of_all fun k=>if_neg (by omega)) (Evt.ifn (by simp) h)
 |succ m ih=>
  intro i hm hi h
  refine Evt.step ?_
  have e1:wrap64 ((b:Int) - 1)=((b - 1:Nat):Int):=by rw[w64 _ (by omega)];omega
  simp only[slices_partitionOrdered_rune.l0,e1]
  clear e1
  simp only[wp i (by omega),rdA d a (by omega),rdA d i (by omega)]
  refine Evt.bind (Evt.of_all fun k=>tst (fun hc=>⟨by omega,by omega,by omega,by omega⟩) (lessT _ _)) ?_
  have e:decide ((i:Int)≤((b - 1:Nat):Int))=decide (i≤b - 1):=decide_eq_decide.2 (by omega)
  rw[e]
  rw[Go.Sort.scanUp] at h
  by_cases hb:(decide (i≤b - 1) && lt d[i]! d[a]!)=true
  ·rw[if_pos hb] at h
   exact Evt.ifp hb (ih (i+1) (by omega) (by omega) h)
  ·rw[if_neg hb] at h
   exact Evt.ifn hb h
theorem pDown0 (L:List E) (a:Nat) (hn:L.length≤1000000) (ha:a<L.length) (d:Array E) (hd:d.size=L.length) (v:Int × Bool × List E) (i:Nat) (hi:1≤i) (hi2:i≤1000002):∀ (j:Nat),j<L.length→
  (i>Go.Sort.scanDown (fun x=> !lt x d[a]!) d i j→v=(((Go.Sort.scanDown (fun x=> !lt x d[a]!) d i j:Nat):Int),true,(swp d (Go.Sort.scanDown (fun x=> !lt x d[a]!) d i j) a).toList))→(¬ i>Go.Sort.scanDown (fun x=> !lt x d[a]!) d i j→
   Evt (fun k=>slices_partitionOrdered_rune.l2 k (i+1:Nat) (Go.Sort.scanDown (fun x=> !lt x d[a]!) d i j - 1:Nat) (swp d i (Go.Sort.scanDown (fun x=> !lt x d[a]!) d i j)).toList a L) v)→
  Evt (fun k=>slices_partitionOrdered_rune.l1 k j a L i d.toList) v:=by
 intro j
 induction j with
 |zero=>
  intro hj h1 h2
  refine Evt.step ?_
  simp only[slices_partitionOrdered_rune.l1]
  refine Evt.bind (v:=false) (Evt.of_all fun k=>if_neg (by omega)) (Evt.ifn (by simp) ?_)
  simp only[rdA d a (by omega),rdA d 0 (by omega),nat_nat,Option.bind_some,setA]
  refine Evt.ifp (by omega) (four (by omega) (by omega) (by omega) (by omega) ((Evt.now _).val (h1 ?_).symm))
  show i>0
  omega
 |succ j ih=>
  intro hj h1 h2
  refine Evt.step ?_
  simp only[slices_partitionOrdered_rune.l1,wm j (by omega),wp i (by omega),rdA d a (by omega),rdA d (j+1) (by omega)]
  refine Evt.bind (Evt.of_all fun k=>tst (fun hc=>⟨by omega,by omega,by omega,by omega⟩) (lessF _ _)) ?_
  have e:decide ((i:Int)≤((j+1:Nat):Int))=decide (i≤j+1):=decide_eq_decide.2 (by omega)
  rw[e]
  unfold Go.Sort.scanDown at h1 h2
  by_cases hb:(decide (i≤j+1) && !lt d[j+1]! d[a]!)=true
  ·rw[if_pos hb] at h1 h2
   exact Evt.ifp hb (ih (by omega) h1 h2)
  ·rw[if_neg hb] at h1 h2
   refine Evt.ifn hb ?_
   by_cases hij:i>j+1
   ·simp only[nat_nat,Option.bind_some,setA]
    exact Evt.ifp (by omega) (four (by omega) (by omega) (by omega) (by omega) ((Evt.now _).val (h1 hij).symm))
   ·simp only[rdA d i (by omega),nat_nat,Option.bind_some,setA]
    exact Evt.ifn (by omega) (four (by omega) (by omega) (by omega) (by omega) (h2 hij))
theorem partition (d:Array E) (a b p:Nat) (hn:d.size≤1000000) (h1:a≤p) (h2:p<b) (hb:b≤d.size):
  Evt (fun k=>slices_partitionOrdered_rune.f k d.toList a b p) (((Go.Sort.partition lt d a b p).1:Int),(Go.Sort.partition lt d a b p).2.1,(Go.Sort.partition lt d a b p).2.2.toList):=by
 unfold slices_partitionOrdered_rune.f
 have hl:d.toList.length=d.size:=by simp
 simp only[wp a (by omega),rdA d a (by omega),rdA d p (by omega),nat_nat,Option.bind_some,setA]
 refine four (by omega) (by omega) (by omega) (by omega) ?_
 have hs:(swp d a p).size=d.toList.length:=by rw[size_swp];exact hl.symm
 have hge:=Go.Sort.scanUp_ge (fun x=>lt x (swp d a p)[a]!) (swp d a p) (b - 1) (a+1)
 have htop:=scanUp_top (fun x=>lt x (swp d a p)[a]!) (swp d a p) (b - 1) _ (a+1) rfl (by omega)
 have hle:=Go.Sort.scanDown_le (fun x=> !lt x (swp d a p)[a]!) (swp d a p) (Go.Sort.scanUp (fun x=>lt x (swp d a p)[a]!) (swp d a p) (b - 1) (a+1)) (b - 1)
 refine pUp0 d.toList a b (by omega) (by omega) (by omega) (swp d a p) hs _ _ (a+1) rfl (by omega) (pDown0 d.toList a (by omega) (by omega) (swp d a p) hs _ _ (by omega) (by omega) (b - 1) (by omega) (fun h=>?_) (fun h=>?_))
 ·unfold Go.Sort.partition
  simp only[if_pos h]
 ·unfold Go.Sort.partition
  simp only[if_neg h]
  exact pLoop d.toList a (by omega) (by omega) _ _ _ _ (Nat.le_refl _) (by omega) (by omega) (by omega) (by rw[size_swp];exact hs)
end Go.Proofs.Ytcokpnajkkjclaa.So
