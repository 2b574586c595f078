import Derived.Test.YtcokpnajkkjclaaSoB
import Derived.Laws.Bits64
/- The library's sort out of the walk: partialInsertionSort, choosePivot, breakPatterns. -/
namespace Go.Proofs.Ytcokpnajkkjclaa.So
open Go Go.RowKit Go.Proofs.Ytcokpnajkkjclaa.GA Go.Proofs.Ytcokpnajkkjclaa.PuE Go.Proofs.YtcokpnajkkjclaaW.PrintWords Go.Proofs.YtcokpnajkkjclaaW.PrintLast Go.Proofs.YtcokpnajkkjclaaW.PrintMore
set_option linter.unusedVariables false
set_option linter.unusedSimpArgs false
/-! ### partialInsertionSort -/
theorem up3 (L:List E) (a b:Nat) (s:Int) (i:Nat) (hn:L.length≤1000000) (hb:b≤L.length) (v:Bool × List E):∀ (m j:Nat) (d:Array E),m=b - j→1≤j→j≤1000001→d.size=L.length→
  Evt (fun k=>slices_partialInsertionSortOrdered_rune.l0 k i (wrap64 (s+1)) (Go.Sort.shiftUp lt b j d).toList a b L) v→Evt (fun k=>slices_partialInsertionSortOrdered_rune.l3 k j d.toList a b L s i) v:=by
 intro m
 induction m with
 |zero=>
  intro j d hm hj hj2 hd h
  rw[Go.Sort.shiftUp,if_neg (by omega)] at h
  refine Evt.step ?_
  simp only[slices_partialInsertionSortOrdered_rune.l3]
  exact Evt.ifn (by omega) h
 |succ m ih=>
  intro j d hm hj hj2 hd h
  rw[Go.Sort.shiftUp,if_pos (by omega)] at h
  obtain⟨q,rfl⟩:∃ q,j=q+1:=⟨j - 1,by omega⟩
  simp only[Nat.add_sub_cancel] at h
  refine Evt.step ?_
  simp only[slices_partialInsertionSortOrdered_rune.l3,wm q (by omega),wp (q+1) (by omega),rdA d (q+1) (by omega),rdA d q (by omega),less,Option.bind_some,nat_nat,setA]
  refine Evt.ifp (by omega) (four (by omega) (by omega) (by omega) (by omega) ?_)
  by_cases hl:lt d[q+1]! d[q]! =true
  ·rw[if_neg (by rw[hl];simp)] at h
   exact Evt.ifp hl (ih (q+1+1) _ (by omega) (by omega) (by omega) (by rw[size_swp];exact hd) h)
  ·rw[if_pos (by simpa using hl)] at h
   exact Evt.ifn hl h
theorem up4 (L:List E) (a b:Nat) (s:Int) (i:Nat) (hn:L.length≤1000000) (hb:b≤L.length) (v:Bool × List E):∀ (m j:Nat) (d:Array E),m=b - j→1≤j→j≤1000001→d.size=L.length→
  Evt (fun k=>slices_partialInsertionSortOrdered_rune.l0 k i (wrap64 (s+1)) (Go.Sort.shiftUp lt b j d).toList a b L) v→Evt (fun k=>slices_partialInsertionSortOrdered_rune.l4 k j d.toList a b L s i) v:=by
 intro m
 induction m with
 |zero=>
  intro j d hm hj hj2 hd h
  rw[Go.Sort.shiftUp,if_neg (by omega)] at h
  refine Evt.step ?_
  simp only[slices_partialInsertionSortOrdered_rune.l4]
  exact Evt.ifn (by omega) h
 |succ m ih=>
  intro j d hm hj hj2 hd h
  rw[Go.Sort.shiftUp,if_pos (by omega)] at h
  obtain⟨q,rfl⟩:∃ q,j=q+1:=⟨j - 1,by omega⟩
  simp only[Nat.add_sub_cancel] at h
  refine Evt.step ?_
  simp only[slices_partialInsertionSortOrdered_rune.l4,wm q (by omega),wp (q+1) (by omega),rdA d (q+1) (by omega),rdA d q (by omega),less,Option.bind_some,nat_nat,setA]
  refine Evt.ifp (by omega) (four (by omega) (by omega) (by omega) (by omega) ?_)
  by_cases hl:lt d[q+1]! d[q]! =true
  ·rw[if_neg (by rw[hl];simp)] at h
   exact Evt.ifp hl (ih (q+1+1) _ (by omega) (by omega) (by omega) (by rw[size_swp];exact hd) h)
  ·rw[if_pos (by simpa using hl)] at h
   exact Evt.ifn hl h
theorem up5 (L:List E) (a b:Nat) (s:Int) (i:Nat) (hn:L.length≤1000000) (hb:b≤L.length) (v:Bool × List E):∀ (m j:Nat) (d:Array E),m=b - j→1≤j→j≤1000001→d.size=L.length→
  Evt (fun k=>slices_partialInsertionSortOrdered_rune.l0 k i (wrap64 (s+1)) (Go.Sort.shiftUp lt b j d).toList a b L) v→Evt (fun k=>slices_partialInsertionSortOrdered_rune.l5 k j d.toList a b L s i) v:=by
 intro m
 induction m with
 |zero=>
  intro j d hm hj hj2 hd h
  rw[Go.Sort.shiftUp,if_neg (by omega)] at h
  refine Evt.step ?_
  simp only[slices_partialInsertionSortOrdered_rune.l5]
  exact Evt.ifn (by omega) h
 |succ m ih=>
  intro j d hm hj hj2 hd h
  rw[Go.Sort.shiftUp,if_pos (by omega)] at h
  obtain⟨q,rfl⟩:∃ q,j=q+1:=⟨j - 1,by omega⟩
  simp only[Nat.add_sub_cancel] at h
  refine Evt.step ?_
  simp only[slices_partialInsertionSortOrdered_rune.l5,wm q (by omega),wp (q+1) (by omega),rdA d (q+1) (by omega),rdA d q (by omega),less,Option.bind_some,nat_nat,setA]
  refine Evt.ifp (by omega) (four (by omega) (by omega) (by omega) (by omega) ?_)
  by_cases hl:lt d[q+1]! d[q]! =true
  ·rw[if_neg (by rw[hl];simp)] at h
   exact Evt.ifp hl (ih (q+1+1) _ (by omega) (by omega) (by omega) (by rw[size_swp];exact hd) h)
  ·rw[if_pos (by simpa using hl)] at h
   exact Evt.ifn hl h
theorem dn2 (L:List E) (a b:Nat) (s:Int) (i:Nat) (hn:L.length≤1000000) (hb:b≤L.length) (hi:1≤i) (hib:i≤b) (v:Bool × List E):∀ (j:Nat) (d:Array E),j<L.length→d.size=L.length→
  Evt (fun k=>slices_partialInsertionSortOrdered_rune.l0 k i (wrap64 (s+1)) (Go.Sort.fixUp lt b i (Go.Sort.shiftDown lt j d)).toList a b L) v→Evt (fun k=>slices_partialInsertionSortOrdered_rune.l2 k j d.toList a b L s i) v:=by
 have es:wrap64 ((b:Int) - (i:Int))=((b - i:Nat):Int):=wsub _ _ (by omega) hib
 intro j
 induction j with
 |zero=>
  intro d hj hd h
  unfold Go.Sort.shiftDown at h
  refine Evt.step ?_
  simp only[slices_partialInsertionSortOrdered_rune.l2,es,wp i (by omega)]
  clear es
  refine Evt.ifn (by omega) ?_
  unfold Go.Sort.fixUp at h
  by_cases h2:b - i≥2
  ·rw[if_pos h2] at h
   exact Evt.ifp (by omega) (up4 L a b s i hn hb v _ (i+1) d rfl (by omega) (by omega) hd h)
  ·rw[if_neg h2] at h
   exact Evt.ifn (by omega) h
 |succ j ih=>
  intro d hj hd h
  unfold Go.Sort.shiftDown at h
  refine Evt.step ?_
  simp only[slices_partialInsertionSortOrdered_rune.l2,es,wp i (by omega),wm j (by omega),rdA d (j+1) (by omega),rdA d j (by omega),less,Option.bind_some,nat_nat,setA]
  clear es
  refine Evt.ifp (by omega) (four (by omega) (by omega) (by omega) (by omega) ?_)
  by_cases hl:lt d[j+1]! d[j]! =true
  ·rw[if_neg (by rw[hl];simp)] at h
   exact Evt.ifp hl (ih _ (by omega) (by rw[size_swp];exact hd) h)
  ·rw[if_pos (by simpa using hl)] at h
   refine Evt.ifn hl ?_
   unfold Go.Sort.fixUp at h
   by_cases h2:b - i≥2
   ·rw[if_pos h2] at h
    exact Evt.ifp (by omega) (up3 L a b s i hn hb v _ (i+1) d rfl (by omega) (by omega) hd h)
   ·rw[if_neg h2] at h
    exact Evt.ifn (by omega) h
theorem size_shiftDown:∀ (j:Nat) (d:Array E),(Go.Sort.shiftDown lt j d).size=d.size
 |0,d=>rfl
 |j+1,d=>by
  unfold Go.Sort.shiftDown
  split
  ·rfl
  ·rw[size_shiftDown j,size_swp]
theorem size_shiftUp (b:Nat):∀ (m j:Nat) (d:Array E),m=b - j→(Go.Sort.shiftUp lt b j d).size=d.size:=by
 intro m
 induction m with
 |zero=>intro j d hm;rw[Go.Sort.shiftUp,if_neg (by omega)]
 |succ m ih=>
  intro j d hm
  rw[Go.Sort.shiftUp]
  split
  ·split
   ·rfl
   ·rw[ih _ _ (by omega),size_swp]
  ·rfl
theorem size_fixes (a b i:Nat) (d:Array E):(Go.Sort.fixUp lt b i (Go.Sort.fixDown lt a i d)).size=d.size:=by
 unfold Go.Sort.fixUp Go.Sort.fixDown
 split <;>split <;>first|rfl|rw[size_shiftUp b _ _ _ rfl,size_shiftDown]|rw[size_shiftUp b _ _ _ rfl]|rw[size_shiftDown]
theorem scanSorted_in (d:Array E) (b:Nat):∀ (m i:Nat),m=b - i→i≤b→i≤Go.Sort.scanSorted lt d b i∧Go.Sort.scanSorted lt d b i≤b:=by
 intro m
 induction m with
 |zero=>intro i hm hi;rw[Go.Sort.scanSorted,if_neg (by simp;omega)];omega
 |succ m ih=>
  intro i hm hi
  rw[Go.Sort.scanSorted]
  split
  ·have:=ih (i+1) (by omega) (by omega)
   omega
  ·omega
theorem scan1 (L:List E) (a b:Nat) (s:Int) (hn:L.length≤1000000) (ha:a≤b) (hb:b≤L.length) (d:Array E) (hd:d.size=L.length) (v:Bool × List E):∀ (m i:Nat),m=b - i→a<i→i≤b→
  (Go.Sort.scanSorted lt d b i=b→v=(true,d.toList))→(Go.Sort.scanSorted lt d b i≠b→b - a<50→v=(false,d.toList))→
  (Go.Sort.scanSorted lt d b i≠b→ ¬ b - a<50→Evt (fun k=>slices_partialInsertionSortOrdered_rune.l0 k (Go.Sort.scanSorted lt d b i:Nat) (wrap64 (s+1))
   (Go.Sort.fixUp lt b (Go.Sort.scanSorted lt d b i) (Go.Sort.fixDown lt a (Go.Sort.scanSorted lt d b i) (swp d (Go.Sort.scanSorted lt d b i) (Go.Sort.scanSorted lt d b i - 1)))).toList a b L) v)→
  Evt (fun k=>slices_partialInsertionSortOrdered_rune.l1 k i a b L s d.toList) v:=by
 have es:wrap64 ((b:Int) - (a:Int))=((b - a:Nat):Int):=wsub _ _ (by omega) ha
 intro m
 induction m with
 |zero=>
  intro i hm hi hib h1 h2 h3
  obtain rfl:i=b:=by omega
  rw[Go.Sort.scanSorted,if_neg (by simp)] at h1
  refine Evt.step ?_
  simp only[slices_partialInsertionSortOrdered_rune.l1]
  clear es
  refine Evt.bind (v:=false) (Evt.of_all fun k=>if_neg (by omega)) (Evt.ifn (by simp) ?_)
  exact Evt.ifp (by first|rfl|trivial) ((Evt.now _).val (h1 rfl).symm)
 |succ m ih=>
  intro i hm hi hib h1 h2 h3
  obtain⟨q,rfl⟩:∃ q,i=q+1:=⟨i - 1,by omega⟩
  refine Evt.step ?_
  simp only[slices_partialInsertionSortOrdered_rune.l1,es,wm q (by omega),wp (q+1) (by omega),rdA d (q+1) (by omega),rdA d q (by omega),nat_nat,Option.bind_some,setA]
  have e5:wrap64 (((q+1:Nat):Int) - (a:Int))=((q+1 - a:Nat):Int):=wsub _ _ (by omega) (by omega)
  have e6:wrap64 ((b:Int) - ((q+1:Nat):Int))=((b - (q+1):Nat):Int):=wsub _ _ (by omega) (by omega)
  simp only[e5,e6]
  clear e5 e6
  refine Evt.bind (Evt.of_all fun k=>tst (fun hc=>⟨by omega,by omega,by omega,by omega⟩) (lessF _ _)) ?_
  have e:decide (((q+1:Nat):Int)<(b:Int))=decide (q+1<b):=decide_eq_decide.2 (by omega)
  rw[e]
  rw[Go.Sort.scanSorted] at h1 h2 h3
  simp only[Nat.add_sub_cancel] at h1 h2 h3
  by_cases hc:(decide (q+1<b) && !lt d[q+1]! d[q]!)=true
  ·rw[if_pos hc] at h1 h2 h3
   exact Evt.ifp hc (ih (q+1+1) (by omega) (by omega) (by omega) h1 h2 h3)
  ·rw[if_neg hc] at h1 h2 h3
   clear es
   refine Evt.ifn hc (Evt.ifn (by omega) ?_)
   by_cases h50:b - a<50
   ·exact Evt.ifp (by omega) ((Evt.now _).val (h2 (by omega) h50).symm)
   ·have h4:=h3 (by omega) h50
    simp only[Nat.add_sub_cancel] at h4
    refine Evt.ifn (by omega) (four (by omega) (by omega) (by omega) (by omega) ?_)
    unfold Go.Sort.fixDown at h4
    by_cases h6:q+1 - a≥2
    ·rw[if_pos h6] at h4
     simp only[Nat.add_sub_cancel] at h4
     exact Evt.ifp (by omega) (dn2 L a b s (q+1) hn hb (by omega) (by omega) v q _ (by omega) (by rw[size_swp];exact hd) h4)
    ·rw[if_neg h6] at h4
     refine Evt.ifn (by omega) ?_
     unfold Go.Sort.fixUp at h4
     by_cases h7:b - (q+1)≥2
     ·rw[if_pos h7] at h4
      exact Evt.ifp (by omega) (up5 L a b s (q+1) hn hb v _ (q+1+1) _ rfl (by omega) (by omega) (by rw[size_swp];exact hd) h4)
     ·rw[if_neg h7] at h4
      exact Evt.ifn (by omega) h4
theorem partial0 (L:List E) (a b:Nat) (hn:L.length≤1000000) (ha:a≤b) (hb:b≤L.length):∀ (s0 i:Nat) (d:Array E),s0≤5→a<i→i≤b→d.size=L.length→
  Evt (fun k=>slices_partialInsertionSortOrdered_rune.l0 k i (5 - s0:Nat) d.toList a b L) ((Go.Sort.partialIns lt a b s0 i d).2,(Go.Sort.partialIns lt a b s0 i d).1.toList):=by
 intro s0
 induction s0 with
 |zero=>
  intro i d hs hi hib hd
  refine Evt.step ?_
  simp only[slices_partialInsertionSortOrdered_rune.l0]
  exact Evt.ifn (by omega) (Evt.now _)
 |succ s0 ih=>
  intro i d hs hi hib hd
  rw[Go.Sort.partialIns_succ]
  have hin:=scanSorted_in d b _ i rfl hib
  refine Evt.step ?_
  simp only[slices_partialInsertionSortOrdered_rune.l0]
  refine Evt.ifp (by omega) (scan1 L a b _ hn ha hb d hd _ _ i rfl hi hib (fun h=>?_) (fun h h5=>?_) (fun h h5=>?_))
  ·rw[if_pos h]
  ·rw[if_neg h,if_pos h5]
  ·rw[if_neg h,if_neg h5]
   have e:wrap64 (((5 - (s0+1):Nat):Int)+1)=((5 - s0:Nat):Int):=by rw[w64 _ (by omega)];omega
   rw[e]
   clear e
   exact ih _ _ (by omega) (by omega) (by omega) (by rw[size_fixes,size_swp];exact hd)
theorem partialInsertionSort (d:Array E) (a b:Nat) (hn:d.size≤1000000) (ha:a<b) (hb:b≤d.size):
  Evt (fun k=>slices_partialInsertionSortOrdered_rune.f k d.toList a b) ((Go.Sort.partialInsertionSort lt d a b).2,(Go.Sort.partialInsertionSort lt d a b).1.toList):=by
 unfold slices_partialInsertionSortOrdered_rune.f Go.Sort.partialInsertionSort
 rw[wp a (by omega)]
 exact partial0 d.toList a b (by simpa using hn) (by omega) (by simpa using hb) 5 (a+1) d (Nat.le_refl _) (by omega) (by omega) (by simp)
/-! ### choosePivot: somewhere in the range -/
theorem order2 (l:List E) (a b:Nat) (s:Int) (ha:a<l.length) (hb:b<l.length):∃ x y:Nat,∃ t:Int,slices_order2Ordered_rune.f l a b s=some ((x:Int),(y:Int),t)∧((x=a∧y=b)∨(x=b∧y=a)):=by
 unfold slices_order2Ordered_rune.f
 rw[if_pos (by omega),if_pos (by omega),if_pos (by omega),if_pos (by omega),less,Option.bind_some]
 by_cases h:lt (rd l b) (rd l a)=true
 ·exact⟨b,a,wrap64 (s+1),by rw[if_pos h],.inr ⟨rfl,rfl⟩⟩
 ·exact⟨a,b,s,by rw[if_neg h],.inl ⟨rfl,rfl⟩⟩
theorem median (l:List E) (a b c:Nat) (s:Int) (ha:a<l.length) (hb:b<l.length) (hc:c<l.length):∃ m:Nat,∃ t:Int,slices_medianOrdered_rune.f l a b c s=some ((m:Int),t)∧(m=a∨m=b∨m=c):=by
 unfold slices_medianOrdered_rune.f
 obtain⟨x,y,t,e1,h1⟩:=order2 l a b s ha hb
 rw[e1,Option.bind_some]
 obtain⟨x2,y2,t2,e2,h2⟩:=order2 l y c t (by omega) hc
 simp only[]
 rw[e2,Option.bind_some]
 obtain⟨x3,y3,t3,e3,h3⟩:=order2 l x x2 t2 (by omega) (by omega)
 simp only[]
 rw[e3,Option.bind_some]
 exact⟨y3,t3,rfl,by omega⟩
theorem medianAdjacent (l:List E) (a:Nat) (s:Int) (hn:l.length≤1000000) (h1:1≤a) (h2:a+1<l.length):∃ m:Nat,∃ t:Int,slices_medianAdjacentOrdered_rune.f l a s=some ((m:Int),t)∧a≤m+1∧m≤a+1:=by
 unfold slices_medianAdjacentOrdered_rune.f
 obtain⟨q,rfl⟩:∃ q,a=q+1:=⟨a - 1,by omega⟩
 obtain⟨m,t,e,h⟩:=median l q (q+1) (q+1+1) s (by omega) (by omega) (by omega)
 rw[wm q (by omega),wp (q+1) (by omega),e,Option.bind_some]
 exact⟨m,t,rfl,by omega⟩
theorem choosePivot (l:List E) (a b:Nat) (hn:l.length≤1000000) (h12:12<b - a) (hb:b≤l.length):∃ m:Nat,∃ t:Int,slices_choosePivotOrdered_rune.f l a b=some ((m:Int),t)∧a≤m∧m<b:=by
 unfold slices_choosePivotOrdered_rune.f
 have e1:wrap64 ((b:Int) - (a:Int))=((b - a:Nat):Int):=wsub _ _ (by omega) (by omega)
 have e2:wrap64 (Int.tdiv ((b - a:Nat):Int) 4)=(((b - a) / 4:Nat):Int):=by
  rw[show Int.tdiv ((b - a:Nat):Int) 4=(((b - a) / 4:Nat):Int) from rfl,w64 _ (by omega)]
 simp only[e1,e2]
 clear e1 e2
 have f1:wrap64 ((((b - a) / 4:Nat):Int))=(((b - a) / 4:Nat):Int):=w64 _ (by omega)
 simp only[f1]
 clear f1
 have f2:wrap64 ((((b - a) / 4:Nat):Int)*2)=(((b - a) / 4*2:Nat):Int):=by rw[w64 _ (by omega)];omega
 have k2:(b - a) / 4*2+a≤4000000:=by omega
 simp only[f2]
 clear f2
 have f3:wrap64 ((((b - a) / 4:Nat):Int)*3)=(((b - a) / 4*3:Nat):Int):=by rw[w64 _ (by omega)];omega
 simp only[f3]
 clear f3
 simp only[wadd a ((b - a) / 4) (by omega),wadd a ((b - a) / 4*2) (by omega),wadd a ((b - a) / 4*3) (by omega)]
 rw[if_pos (by omega)]
 have fin:∀ (m:Nat) (t:Int),a≤m→m<b→∃ m':Nat,∃ t':Int,(if t=0 then some ((m:Int),(1:Int)) else if t=12 then some ((m:Int),2) else some ((m:Int),0))=some ((m':Int),t')∧a≤m'∧m'<b:=by
  intro m t h1 h2
  split
  ·exact⟨m,1,rfl,h1,h2⟩
  ·split
   ·exact⟨m,2,rfl,h1,h2⟩
   ·exact⟨m,0,rfl,h1,h2⟩
 by_cases h50:b - a≥50
 ·rw[if_pos (by omega)]
  obtain⟨m1,t1,e1,h1⟩:=medianAdjacent l (a+(b - a) / 4) 0 hn (by omega) (by omega)
  rw[e1,Option.bind_some]
  obtain⟨m2,t2,e2,h2⟩:=medianAdjacent l (a+(b - a) / 4*2) t1 hn (by omega) (by omega)
  simp only[]
  rw[e2,Option.bind_some]
  obtain⟨m3,t3,e3,h3⟩:=medianAdjacent l (a+(b - a) / 4*3) t2 hn (by omega) (by omega)
  simp only[]
  rw[e3,Option.bind_some]
  obtain⟨m4,t4,e4,h4⟩:=median l m1 m2 m3 t3 (by omega) (by omega) (by omega)
  simp only[]
  rw[e4,Option.bind_some]
  exact fin m4 t4 (by omega) (by omega)
 ·rw[if_neg (by omega)]
  obtain⟨m4,t4,e4,h4⟩:=median l (a+(b - a) / 4) (a+(b - a) / 4*2) (a+(b - a) / 4*3) 0 (by omega) (by omega) (by omega)
  rw[e4,Option.bind_some]
  exact fin m4 t4 (by omega) (by omega)
/-! ### breakPatterns: a permutation -/
theorem and_le (x:Int) (b:Nat) (hb:b<18446744073709551616):∃ o:Nat,Go.bits .and .u64 x (b:Int)=(o:Int)∧o≤b:=by
 have h2:(BitVec.ofInt 64 (b:Int)).toNat=b:=by
  rw[BitVec.ofInt_natCast,BitVec.toNat_ofNat];exact Nat.mod_eq_of_lt (by omega)
 refine⟨(BitVec.ofInt 64 x).toNat &&& b,?_,Nat.and_le_right⟩
 show IntKind.u64.wrap ((BitVec.ofInt 64 x &&& BitVec.ofInt 64 (b:Int)).toNat:Int)=_
 have:=Nat.and_le_right (n:=(BitVec.ofInt 64 x).toNat) (m:=b)
 rw[BitVec.toNat_and,h2,IntKind.wrap_u64]
 omega
def powOk (n:Nat):Bool:=match slices_nextPowerOfTwo.f (n:Int) with|some t=>decide (1≤t) && decide (t≤2*(n:Int))|none=>false
theorem pow_all:∀ n ∈ List.range 513,n<8∨powOk n=true:=by decide+kernel
theorem pow_in (n:Nat) (h:8≤n∧n≤512):∃ t:Nat,slices_nextPowerOfTwo.f (n:Int)=some (t:Int)∧1≤t∧t≤2*n:=by
 have h1:=(pow_all n (List.mem_range.2 (by omega))).resolve_left (by omega)
 unfold powOk at h1
 split at h1
 ·rename_i t ht
  simp only[Bool.and_eq_true,decide_eq_true_eq] at h1
  exact⟨t.toNat,by rw[ht];congr 1;omega,by omega,by omega⟩
 ·cases h1
theorem brkFacts (a b t:Nat) (hab:a≤b) (h8:8≤b - a∧b≤100000) (ht:1≤t∧t≤2*(b - a)):wrap64 ((b:Int) - (a:Int))=((b - a:Nat):Int)∧wrap64 (Int.tdiv ((b - a:Nat):Int) 4)=(((b - a) / 4:Nat):Int)∧
  wrap64 ((((b - a) / 4:Nat):Int)*2)=(((b - a) / 4*2:Nat):Int)∧wrap64 ((a:Int)+(((b - a) / 4*2:Nat):Int))=((a+(b - a) / 4*2:Nat):Int)∧wrap64 (((a+(b - a) / 4*2:Nat):Int)+1)=((a+(b - a) / 4*2+1:Nat):Int)∧
  IntKind.u64.wrap ((t:Int) - 1)=((t - 1:Nat):Int):=by
 refine⟨wsub _ _ (by omega) hab,?_,?_,wadd a ((b - a) / 4*2) (by omega),wp (a+(b - a) / 4*2) (by omega),?_⟩
 ·rw[show Int.tdiv ((b - a:Nat):Int) 4=(((b - a) / 4:Nat):Int) from rfl,w64 _ (by omega)]
 ·rw[w64 _ (by omega)];omega
 ·rw[IntWalk.u64_in _ (by omega)];omega
theorem brk0 (L:List E) (a b t:Nat) (hn:L.length≤512) (hb8:a≤b) (h8:8≤b - a) (hb:b≤L.length) (ht:1≤t∧t≤2*(b - a)):∀ (m i:Nat) (st:Int) (d:Array E),m=a+(b - a) / 4*2+2 - i→a≤i→i≤1000000→d.size=L.length→
  ∃ R,Go.Sort.PermIn a b d R∧Evt (fun k=>slices_breakPatternsOrdered_rune.l0 k i st d.toList a b L t) R.toList:=by
 have V:=Veil.mk (brkFacts a b t hb8 ⟨h8,Nat.le_trans hb (Nat.le_trans hn (by decide))⟩ ht)
 intro m
 induction m with
 |zero=>
  intro i st d hm hi hi2 hd
  refine⟨d,Go.Sort.permIn_refl d a b,Evt.step ?_⟩
  simp only[slices_breakPatternsOrdered_rune.l0,V.out.1,V.out.2.1,V.out.2.2.1,V.out.2.2.2.1,V.out.2.2.2.2.1,V.out.2.2.2.2.2]
  exact Evt.ifn (by omega) (Evt.now _)
 |succ m ih=>
  intro i st d hm hi hi2 hd
  obtain⟨x,y,hx⟩:∃ x y,slices_xorshift_Next.f st=some (x,y):=⟨_,_,rfl⟩
  obtain⟨o,ho,hol⟩:=and_le x (t - 1) (by omega)
  replace ho:=Veil.mk ho
  have k9:o≤100000:=by omega
  have go:∀ q:Nat,a≤q→q<b→∃ R,Go.Sort.PermIn a b d R∧Evt (fun k=>slices_breakPatternsOrdered_rune.l0 k ((i+1:Nat):Int) y (swp d i q).toList a b L t) R.toList:=by
   intro q h1 h2
   obtain⟨R,hp,hE⟩:=ih (i+1) y (swp d i q) (by omega) (by omega) (by omega) (by rw[size_swp];exact hd)
   exact⟨R,Go.Sort.permIn_trans _ _ _ a b (Go.Sort.swp_permIn d a b i q (by omega) (by omega) h1 h2 (by omega)) hp,hE⟩
  by_cases hge:o≥b - a
  ·obtain⟨R,hp,hE⟩:=go (a+(o - (b - a))) (by omega) (by omega)
   have k5:((i:Nat):Int)≤((a+(b - a) / 4*2+1:Nat):Int):=by omega
   have k1:a+(o - (b - a))≤4000000:=by omega
   have wo:wrap64 (o:Int)=(o:Int):=w64 _ (by omega)
   have w1:=wsub o (b - a) (Nat.le_trans k9 (by decide)) hge
   have w2:=wadd a (o - (b - a)) k1
   refine⟨R,hp,Evt.step ?_⟩
   simp only[slices_breakPatternsOrdered_rune.l0,V.out.1,V.out.2.1,V.out.2.2.1,V.out.2.2.2.1,V.out.2.2.2.2.1,V.out.2.2.2.2.2]
   refine Evt.ifp k5 (Evt.bind (Evt.of_all fun _=>hx) ?_)
   dsimp only
   rw[ho.out]
   simp only[wo,w1,w2]
   clear w1 w2 wo
   simp only[wp i (by omega),rdA d i (by omega),rdA d (a+(o - (b - a))) (by omega),nat_nat,Option.bind_some,setA]
   exact Evt.ifp (by omega) (four (by omega) (by omega) (by omega) (by omega) hE)
  ·obtain⟨R,hp,hE⟩:=go (a+o) (by omega) (by omega)
   have k5:((i:Nat):Int)≤((a+(b - a) / 4*2+1:Nat):Int):=by omega
   have k1:a+o≤4000000:=by omega
   have wo:wrap64 (o:Int)=(o:Int):=w64 _ (by omega)
   have w2:=wadd a o k1
   refine⟨R,hp,Evt.step ?_⟩
   simp only[slices_breakPatternsOrdered_rune.l0,V.out.1,V.out.2.1,V.out.2.2.1,V.out.2.2.2.1,V.out.2.2.2.2.1,V.out.2.2.2.2.2]
   refine Evt.ifp k5 (Evt.bind (Evt.of_all fun _=>hx) ?_)
   dsimp only
   rw[ho.out]
   simp only[wo,w2]
   clear w2 wo
   simp only[wp i (by omega),rdA d i (by omega),rdA d (a+o) (by omega),nat_nat,Option.bind_some,setA]
   exact Evt.ifn (by omega) (four (by omega) (by omega) (by omega) (by omega) hE)
theorem breakPatterns (d:Array E) (a b:Nat) (hn:d.size≤512) (h8:8≤b - a) (hb:b≤d.size):∃ R,Go.Sort.PermIn a b d R∧Evt (fun k=>slices_breakPatternsOrdered_rune.f k d.toList a b) R.toList:=by
 unfold slices_breakPatternsOrdered_rune.f
 obtain⟨e1,e2,e3,e4,_,_⟩:=brkFacts a b 1 (by omega) ⟨h8,by omega⟩ (by omega)
 simp only[e1,e2,e3,e4]
 clear e1 e2 e3 e4
 have e5:wrap64 (((a+(b - a) / 4*2:Nat):Int) - 1)=((a+(b - a) / 4*2 - 1:Nat):Int):=by rw[w64 _ (by omega)];omega
 rw[e5]
 clear e5
 obtain⟨t,ht,h1,h2⟩:=pow_in (b - a) (by omega)
 rw[ht]
 obtain⟨R,hp,hE⟩:=brk0 d.toList a b t (by simpa using hn) (by omega) h8 (by simpa using hb) ⟨h1,h2⟩ _ (a+(b - a) / 4*2 - 1) (IntKind.u64.wrap ((b - a:Nat):Int)) d rfl (by omega) (by omega) (by simp)
 exact⟨R,hp,Evt.ifp (by omega) (Evt.bind (Evt.now _) hE)⟩
end Go.Proofs.Ytcokpnajkkjclaa.So
