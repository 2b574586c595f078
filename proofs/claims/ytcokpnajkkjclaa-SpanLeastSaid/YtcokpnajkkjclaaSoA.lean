import Derived.Test.YtcokpnajkkjclaaPuEv
import Derived.Test.YtcokpnajkkjclaaGM3
import Derived.Sort.LotA
import Derived.Sort.LotB
import Derived.Sort.LotC
import Derived.Sort.LotD1
import Derived.Sort.LotD3
/- The library's sort out of the walk, held against the kit's functions over arrays: insertionSort, heapSort, reverseRange. -/
namespace Go.Proofs.Ytcokpnajkkjclaa.So
open Go Go.RowKit Go.Proofs.Ytcokpnajkkjclaa.GA Go.Proofs.Ytcokpnajkkjclaa.PuE Go.Proofs.YtcokpnajkkjclaaW.PrintWords Go.Proofs.YtcokpnajkkjclaaW.PrintLast Go.Proofs.YtcokpnajkkjclaaW.PrintMore
set_option linter.unusedVariables false
set_option linter.unusedSimpArgs false
abbrev E:=Int
abbrev lt:E→E→Bool:=Go.Sort.ltInt
abbrev swp:= @Go.Sort.swp E _
theorem rdA (d:Array E) (i:Nat) (h:i<d.size):rd d.toList (i:Int)=d[i]! :=by
 simp[rd,rdOf,List.getD,h]
theorem less (x y:E):cmp_Less_rune.f x y=some (lt x y):=by
 simp[cmp_Less_rune.f,cmp_isNaN_rune.f,lt,Go.Sort.ltInt]
theorem lessT (x y:E):((cmp_Less_rune.f x y).bind fun t=>some t)=some (lt x y):=by rw[less];rfl
theorem lessF (x y:E):((cmp_Less_rune.f x y).bind fun t=>some (!t))=some (!lt x y):=by rw[less];rfl
theorem setA (d:Array E) (i j:Nat):List.set (List.set d.toList i d[j]!) j d[i]! =(swp d i j).toList:=by
 simp[Go.Sort.swp]
theorem nat_nat (i:Nat):((i:Int)).toNat=i:=rfl
/-- A test with bounds. -/
theorem tst {c b1 b2 b3 b4:Prop} [Decidable c] [Decidable b1] [Decidable b2] [Decidable b3] [Decidable b4] {o:Option Bool} {t:Bool} (h:c→b1∧b2∧b3∧b4) (ho:o=some t):
  (if c then(if b1 then(if b2 then(if b3 then(if b4 then o else none) else none) else none) else none) else some false)=some (decide c && t):=by
 by_cases hc:c
 ·obtain⟨h1,h2,h3,h4⟩:=h hc
  rw[if_pos hc,if_pos h1,if_pos h2,if_pos h3,if_pos h4,ho,decide_eq_true hc,Bool.true_and]
 ·rw[if_neg hc,decide_eq_false hc,Bool.false_and]
section
variable {α : Type} {v : α}
theorem four {b1 b2 b3 b4:Prop} [Decidable b1] [Decidable b2] [Decidable b3] [Decidable b4] {f:Nat→Option α} (h1:b1) (h2:b2) (h3:b3) (h4:b4) (h:Evt f v):
  Evt (fun k=>if b1 then(if b2 then(if b3 then(if b4 then f k else none) else none) else none) else none) v:=Evt.ifp h1 (Evt.ifp h2 (Evt.ifp h3 (Evt.ifp h4 h)))
end
theorem size_swp (d:Array E) (i j:Nat):(swp d i j).size=d.size:=Go.Sort.size_swp d i j
theorem size_insInner (a:Nat):∀ (j:Nat) (d:Array E),(Go.Sort.insInner lt a j d).size=d.size
 |0,d=>rfl
 |j+1,d=>by
  unfold Go.Sort.insInner
  split
  ·rw[size_insInner a j,size_swp]
  ·rfl
theorem wm (j:Nat) (h:j≤4000000):wrap64 (((j+1:Nat):Int) - 1)=((j:Nat):Int):=by rw[w64 _ (by omega)];omega
theorem wp (j:Nat) (h:j≤4000000):wrap64 ((j:Int)+1)=((j+1:Nat):Int):=by rw[w64 _ (by omega)];omega
theorem w2 (j:Nat) (h:j≤4000000):wrap64 (2*(j:Int))=((2*j:Nat):Int):=by rw[w64 _ (by omega)];omega
theorem wadd (i j:Nat) (h:i+j≤4000000):wrap64 ((i:Int)+(j:Int))=((i+j:Nat):Int):=by rw[w64 _ (by omega)];omega
theorem wsub (i j:Nat) (h:i≤4000000) (hj:j≤i):wrap64 ((i:Int) - (j:Int))=((i - j:Nat):Int):=by rw[w64 _ (by omega)];omega
/-! ### insertionSort -/
theorem ins1 (L:List E) (a b i:Nat) (hn:L.length≤1000000) (v:List E):∀ (j:Nat) (d:Array E),d.size=L.length→j<L.length→
  Evt (fun k=>slices_insertionSortOrdered_rune.l0 k (wrap64 ((i:Int)+1)) (Go.Sort.insInner lt a j d).toList a b L) v→Evt (fun k=>slices_insertionSortOrdered_rune.l1 k j d.toList a b L i) v:=by
 intro j
 induction j with
 |zero=>
  intro d hd hj h
  refine Evt.step ?_
  simp only[slices_insertionSortOrdered_rune.l1]
  refine Evt.bind (v:=false) (Evt.of_all fun k=>if_neg (by omega)) (Evt.ifn (by simp) h)
 |succ j ih=>
  intro d hd hj h
  refine Evt.step ?_
  simp only[slices_insertionSortOrdered_rune.l1,wm j (by omega)]
  refine Evt.bind (Evt.of_all fun k=>tst (fun hc=>⟨by omega,by omega,by omega,by omega⟩) (lessT _ _)) ?_
  simp only[rdA d (j+1) (by omega),rdA d j (by omega),Option.bind_some,nat_nat,setA]
  unfold Go.Sort.insInner at h
  have e:decide (((j+1:Nat):Int)>(a:Int))=decide (j+1>a):=decide_eq_decide.2 (by omega)
  rw[e]
  by_cases hb:(decide (j+1>a) && lt d[j+1]! d[j]!)=true
  ·rw[if_pos hb] at h
   exact Evt.ifp hb (four (by omega) (by omega) (by omega) (by omega) (ih (swp d (j+1) j) (by rw[size_swp];omega) (by omega) h))
  ·rw[if_neg hb] at h
   exact Evt.ifn hb h
theorem ins0 (L:List E) (a b:Nat) (hn:L.length≤1000000) (hb:b≤L.length):∀ (m i:Nat) (d:Array E),m=b - i→i≤1000001→d.size=L.length→
  Evt (fun k=>slices_insertionSortOrdered_rune.l0 k i d.toList a b L) (Go.Sort.insOuter lt a b i d).toList:=by
 intro m
 induction m with
 |zero=>
  intro i d hm hi hd
  rw[Go.Sort.insOuter,if_neg (by omega)]
  refine Evt.step ?_
  simp only[slices_insertionSortOrdered_rune.l0]
  exact Evt.ifn (by omega) (Evt.now _)
 |succ m ih=>
  intro i d hm hi hd
  rw[Go.Sort.insOuter,if_pos (by omega)]
  refine Evt.step ?_
  simp only[slices_insertionSortOrdered_rune.l0]
  refine Evt.ifp (by omega) (ins1 L a b i hn _ i d hd (by omega) ?_)
  rw[wp i (by omega)]
  exact ih (i+1) _ (by omega) (by omega) (by rw[size_insInner];exact hd)
theorem insertionSort (d:Array E) (a b:Nat) (hn:d.size≤1000000) (ha:a≤b) (hb:b≤d.size):Evt (fun k=>slices_insertionSortOrdered_rune.f k d.toList a b) (Go.Sort.insertionSort lt d a b).toList:=by
 unfold slices_insertionSortOrdered_rune.f Go.Sort.insertionSort
 rw[wp a (by omega)]
 exact ins0 d.toList a b (by simpa using hn) (by simpa using hb) _ (a+1) d rfl (by omega) (by simp)
/-! ### heapSort -/
theorem size_sift (hi F:Nat):∀ (m root:Nat) (d:Array E),hi - root≤m→(Go.Sort.siftDown lt hi F root d).size=d.size:=by
 intro m
 induction m with
 |zero=>
  intro root d h
  rw[Go.Sort.siftDown,dif_pos (by omega)]
 |succ m ih=>
  intro root d h
  rw[Go.Sort.siftDown]
  repeat' split
  all_goals first|rfl|(rw[ih _ _ (by omega),size_swp])
theorem sift0 (L:List E) (hi F:Nat) (hn:L.length≤1000000) (hF:F+hi≤L.length):∀ (m root:Nat) (d:Array E),hi - root≤m→root≤1000000→d.size=L.length→
  Evt (fun k=>slices_siftDownOrdered_rune.l0 k root d.toList hi F L) (Go.Sort.siftDown lt hi F root d).toList:=by
 intro m
 induction m with
 |zero=>
  intro root d hm hr hd
  have e0:wrap64 (2*(root:Int))=((2*root:Nat):Int):=by rw[w64 _ (by omega)];omega
  rw[Go.Sort.siftDown,dif_pos (by omega)]
  refine Evt.step ?_
  simp only[slices_siftDownOrdered_rune.l0,e0]
  clear e0
  have e1:wrap64 (((2*root:Nat):Int)+1)=((2*root+1:Nat):Int):=by rw[w64 _ (by omega)];omega
  rw[e1]
  clear e1
  exact Evt.ifp (by omega) (Evt.now _)
 |succ m ih=>
  intro root d hm hr hd
  have e0:=w2 root (by omega)
  have e1:=wp (2*root) (by omega)
  have e2:=wp (2*root+1) (by omega)
  refine Evt.step ?_
  simp only[slices_siftDownOrdered_rune.l0,e0,e1,e2]
  clear e0 e1 e2
  by_cases h0:2*root+1≥hi
  ·rw[Go.Sort.siftDown,dif_pos h0]
   exact Evt.ifp (by omega) (Evt.now _)
  ·have k1:F+(2*root+1)≤4000000:=by omega
   have k2:F+root≤4000000:=by omega
   have k3:F+(2*root+2)≤4000000:=by omega
   have e3:=wadd F (2*root+1) k1
   have e4:=wp (F+(2*root+1)) k1
   have e5:=wadd F root k2
   have e6:=wadd F (2*root+2) k3
   simp only[e3,e4,e5,e6]
   clear e3 e4 e5 e6
   refine Evt.ifn (by omega) ?_
   have g1:=rdA d (F+root) (by omega)
   have g2:=rdA d (F+(2*root+1)) (by omega)
   rw[Go.Sort.siftDown,dif_neg h0]
   have ec:decide (((2*root+2:Nat):Int)<(hi:Int))=decide (2*root+1+1<hi):=decide_eq_decide.2 (by omega)
   refine Evt.bind (Evt.of_all fun k=>tst (fun hc=>⟨by omega,by omega,by omega,by omega⟩) (lessT _ _)) ?_
   rw[ec]
   have one:∀ c:Bool,c=false→Evt (fun k=>if c=true then(slices_siftDownOrdered_rune.l0 k root d.toList hi F L) else
     (if 0≤((F+root:Nat):Int) then(if ((F+root:Nat):Int)<(L.length:Int) then(if 0≤((F+(2*root+1):Nat):Int) then(if ((F+(2*root+1):Nat):Int)<(L.length:Int) then
      ((cmp_Less_rune.f (rd d.toList ((F+root:Nat):Int)) (rd d.toList ((F+(2*root+1):Nat):Int))).bind fun t81=>(if t81=true then
       ((some (List.set d.toList (((F+root:Nat):Int)).toNat (rd d.toList ((F+(2*root+1):Nat):Int)):List E)).bind fun y88=>
        ((some (List.set y88 (((F+(2*root+1):Nat):Int)).toNat (rd d.toList ((F+root:Nat):Int)):List E)).bind fun y92=>(slices_siftDownOrdered_rune.l0 k ((2*root+1:Nat):Int) y92 hi F L))) else(some d.toList))) else none) else none) else none) else none))
     (if (!lt d[F+root]! d[F+(2*root+1)]!)=true then d else Go.Sort.siftDown lt hi F (2*root+1) (swp d (F+root) (F+(2*root+1)))).toList:=by
    intro c hc
    simp only[g1,g2,nat_nat,Option.bind_some,setA,less]
    refine Evt.ifn (by rw[hc];simp) (four (by omega) (by omega) (by omega) (by omega) ?_)
    by_cases hl:lt d[F+root]! d[F+(2*root+1)]! =true
    ·rw[if_neg (by rw[hl];simp)]
     exact Evt.ifp hl (ih (2*root+1) (swp d (F+root) (F+(2*root+1))) (by omega) (by omega) (by rw[size_swp];exact hd))
    ·rw[if_pos (by simpa using hl)]
     exact Evt.ifn hl (Evt.now _)
   by_cases hc:2*root+1+1<hi
   ·have g3:=rdA d (F+(2*root+1)+1) (by omega)
    have g4:=rdA d (F+(2*root+2)) (by omega)
    by_cases hb:(decide (2*root+1+1<hi) && lt d[F+(2*root+1)]! d[F+(2*root+1)+1]!)=true
    ·rw[if_pos hb]
     simp only[g1,g2,g3,g4,nat_nat,Option.bind_some,setA,less]
     refine Evt.ifp hb (four (by omega) (by omega) (by omega) (by omega) ?_)
     by_cases hl:lt d[F+root]! d[F+(2*root+2)]! =true
     ·rw[if_neg (by rw[hl];simp),dif_pos (by omega)]
      exact Evt.ifp hl (ih (2*root+2) (swp d (F+root) (F+(2*root+2))) (by omega) (by omega) (by rw[size_swp];exact hd))
     ·rw[if_pos (by simpa using hl)]
      exact Evt.ifn hl (Evt.now _)
    ·rw[if_neg hb]
     exact(one false rfl).of_eq fun k=>by
      rw[g2,g3,if_neg hb]
      simp only[Bool.false_eq_true,if_false]
   ·rw[if_neg (by rw[decide_eq_false hc];simp)]
    exact(one false rfl).of_eq fun k=>by
     rw[if_neg (by rw[decide_eq_false hc];simp)]
     simp only[Bool.false_eq_true,if_false]
theorem siftDown (d:Array E) (root hi F:Nat) (hn:d.size≤1000000) (hF:F+hi≤d.size) (hr:root≤1000000):Evt (fun k=>slices_siftDownOrdered_rune.f k d.toList root hi F) (Go.Sort.siftDown lt hi F root d).toList:=by
 unfold slices_siftDownOrdered_rune.f
 exact sift0 d.toList hi F (by simpa using hn) (by simpa using hF) _ root d (Nat.le_refl _) hr (by simp)
theorem size_sift' (hi F root:Nat) (d:Array E):(Go.Sort.siftDown lt hi F root d).size=d.size:=size_sift hi F _ root d (Nat.le_refl _)
theorem heap1 (L:List E) (a n:Nat) (hn:L.length≤1000000) (hb:a+n≤L.length):∀ (k0:Nat) (d:Array E),k0≤n→d.size=L.length→
  Evt (fun k=>slices_heapSortOrdered_rune.l1 k ((k0:Int) - 1) d.toList a L) (Go.Sort.heapPop lt a k0 d).toList:=by
 intro k0
 induction k0 with
 |zero=>
  intro d hk hd
  refine Evt.step ?_
  simp only[slices_heapSortOrdered_rune.l1]
  exact Evt.ifn (by omega) (Evt.now _)
 |succ k0 ih=>
  intro d hk hd
  have e0:(((k0+1:Nat):Int) - 1)=(k0:Int):=by omega
  have e1:wrap64 ((a:Int)+(k0:Int))=((a+k0:Nat):Int):=wadd _ _ (by omega)
  have e2:wrap64 ((k0:Int) - 1)=(k0:Int) - 1:=w64 _ (by omega)
  rw[e0]
  refine Evt.step ?_
  simp only[slices_heapSortOrdered_rune.l1,e1,e2,rdA d a (by omega),rdA d (a+k0) (by omega),nat_nat,Option.bind_some,setA]
  refine Evt.ifp (by omega) (four (by omega) (by omega) (by omega) (by omega) ?_)
  refine Evt.bind (siftDown (swp d a (a+k0)) 0 k0 a (by rw[size_swp];omega) (by rw[size_swp];omega) (by omega)) ?_
  exact ih _ (by omega) (by rw[size_sift',size_swp];exact hd)
theorem heap0 (L:List E) (a b:Nat) (hn:L.length≤1000000) (ha:a≤b) (hb:b≤L.length):∀ (k0:Nat) (d:Array E),k0≤1000000→d.size=L.length→
  Evt (fun k=>slices_heapSortOrdered_rune.l0 k ((k0:Int) - 1) d.toList a b L) (Go.Sort.heapPop lt a (b - a) (Go.Sort.heapBuild lt (b - a) a k0 d)).toList:=by
 intro k0
 induction k0 with
 |zero=>
  intro d hk hd
  refine Evt.step ?_
  have e1:wrap64 ((b:Int) - (a:Int))=((b - a:Nat):Int):=wsub _ _ (by omega) ha
  have e2:wrap64 (((b - a:Nat):Int) - 1)=((b - a:Nat):Int) - 1:=w64 _ (by omega)
  simp only[slices_heapSortOrdered_rune.l0,e1,e2]
  exact Evt.ifn (by omega) (heap1 L a (b - a) hn (by omega) (b - a) d (Nat.le_refl _) hd)
 |succ k0 ih=>
  intro d hk hd
  have e0:(((k0+1:Nat):Int) - 1)=(k0:Int):=by omega
  have e1:wrap64 ((b:Int) - (a:Int))=((b - a:Nat):Int):=wsub _ _ (by omega) ha
  have e2:wrap64 ((k0:Int) - 1)=(k0:Int) - 1:=w64 _ (by omega)
  rw[e0]
  refine Evt.step ?_
  simp only[slices_heapSortOrdered_rune.l0,e1,e2]
  refine Evt.ifp (by omega) (Evt.bind (siftDown d k0 (b - a) a (by omega) (by omega) (by omega)) ?_)
  exact ih _ (by omega) (by rw[size_sift'];exact hd)
theorem heapSort (d:Array E) (a b:Nat) (hn:d.size≤1000000) (ha:a<b) (hb:b≤d.size):Evt (fun k=>slices_heapSortOrdered_rune.f k d.toList a b) (Go.Sort.heapSort lt d a b).toList:=by
 unfold slices_heapSortOrdered_rune.f Go.Sort.heapSort
 have e1:wrap64 ((b:Int) - (a:Int))=((b - a:Nat):Int):=wsub _ _ (by omega) (by omega)
 have e2:wrap64 (((b - a:Nat):Int) - 1)=((b - a - 1:Nat):Int):=by rw[w64 _ (by omega)];omega
 have e3:wrap64 (Int.tdiv ((b - a - 1:Nat):Int) 2)=(((b - a - 1) / 2+1:Nat):Int) - 1:=by
  rw[show Int.tdiv ((b - a - 1:Nat):Int) 2=(((b - a - 1) / 2:Nat):Int) from rfl,w64 _ (by omega)]
  omega
 rw[e1,e2,e3]
 exact heap0 d.toList a b (by simpa using hn) (by omega) (by simpa using hb) _ d (by omega) (by simp)
/-! ### reverseRange -/
theorem rev0 (L:List E) (hn:L.length≤1000000):∀ (m i:Nat) (j:Nat) (d:Array E),j - i≤m→i≤1000000→j<L.length→d.size=L.length→
  Evt (fun k=>slices_reverseRangeOrdered_rune.l0 k i j d.toList L) (Go.Sort.reverseLoop i j d).toList:=by
 intro m
 induction m with
 |zero=>
  intro i j d hm hi hj hd
  rw[Go.Sort.reverseLoop,if_neg (by omega)]
  refine Evt.step ?_
  simp only[slices_reverseRangeOrdered_rune.l0]
  exact Evt.ifn (by omega) (Evt.now _)
 |succ m ih=>
  intro i j d hm hi hj hd
  rw[Go.Sort.reverseLoop]
  refine Evt.step ?_
  simp only[slices_reverseRangeOrdered_rune.l0]
  by_cases h:i<j
  ·rw[if_pos h]
   have e1:wrap64 ((j:Int) - 1)=((j - 1:Nat):Int):=by rw[w64 _ (by omega)];omega
   simp only[wp i (by omega),e1,rdA d i (by omega),rdA d j (by omega),nat_nat,Option.bind_some,setA]
   exact Evt.ifp (by omega) (four (by omega) (by omega) (by omega) (by omega) (ih (i+1) (j - 1) _ (by omega) (by omega) (by omega) (by rw[size_swp];exact hd)))
  ·rw[if_neg h]
   exact Evt.ifn (by omega) (Evt.now _)
theorem reverseRange (d:Array E) (a b:Nat) (hn:d.size≤1000000) (ha:a<b) (hb:b≤d.size):Evt (fun k=>slices_reverseRangeOrdered_rune.f k d.toList a b) (Go.Sort.reverseRange d a b).toList:=by
 unfold slices_reverseRangeOrdered_rune.f Go.Sort.reverseRange
 have e1:wrap64 ((b:Int) - 1)=((b - 1:Nat):Int):=by rw[w64 _ (by omega)];omega
 rw[e1]
 exact rev0 d.toList (by simpa using hn) _ a (b - 1) d (Nat.le_refl _) (by omega) (by simp;omega) (by simp)
end Go.Proofs.Ytcokpnajkkjclaa.So
