import Derived.Test.YtcokpnajkkjclaaSpB
/- Plain law of the span tables: finding and counting, both ways. -/
namespace Go.Proofs.Ytcokpnajkkjclaa.SpA
open Go Go.RowKit Go.Proofs.Ytcokpnajkkjclaa.GA Go.Proofs.Ytcokpnajkkjclaa.PuE Go.Proofs.YtcokpnajkkjclaaW.PrintWords Go.Proofs.YtcokpnajkkjclaaW.PrintLast Go.Proofs.YtcokpnajkkjclaaW.PrintMore
set_option linter.unusedVariables false
set_option linter.unusedSimpArgs false
/-- Both checks answer alike; what they let in is a table. -/
theorem checks (l:List S37):∃ c,(c=0∨c=20)∧Evt (fun k=>span_Check.f k l) c∧Evt (fun k=>toponymref02_Check.f k l) c∧(c=0→l.length≤500∧tab l):=by
 by_cases h:l.length≤500
 ·obtain⟨c,hc,hs,hr,ht⟩:=check l h (l.length - 0) 0 rfl (Nat.zero_le _) (fun h=>absurd h (by omega))
  refine⟨c,hc,?_,?_,fun e=>⟨h,fun j hj=>ht e j (Nat.zero_le _) hj⟩⟩
  ·unfold span_Check.f
   exact Evt.ifn (by omega) hs
  ·unfold toponymref02_Check.f
   exact Evt.ifn (by omega) hr
 ·refine⟨20,.inr rfl,?_,?_,fun e=>absurd e (by decide)⟩
  ·unfold span_Check.f
   exact Evt.ifp (by omega) (Evt.now _)
  ·unfold toponymref02_Check.f
   exact Evt.ifp (by omega) (Evt.now _)
theorem mid (lo hi:Nat) (h:lo+hi≤100000):wrap64 ((IntKind.u64.wrap (wrap64 ((lo:Int)+(hi:Int)))) / 2)=(((lo+hi) / 2:Nat):Int):=by
 have e1:wrap64 ((lo:Int)+(hi:Int))=(lo:Int)+(hi:Int):=w64 _ (by omega)
 rw[e1,IntWalk.u64_in _ (by omega),w64 _ (by omega)]
 omega
theorem probe (x:S37) (r:Int) (hg:good x) (hr: -2147483648≤r∧r≤2147483647):span_Find_1.f x.f0 x.f1 x.f2 r=some (x.f1 - r):=by
 obtain⟨h0,h1,h2⟩:=hg
 unfold span_Find_1.f
 rw[w64 x.f1 (by omega),w64 r (by omega),w64 _ (by omega)]
/-- The binary search tells what the table has. -/
theorem find_tab (l:List S37) (hn:l.length≤500) (ht:tab l) (r:Int) (hr: -2147483648≤r∧r≤2147483647):∀ m lo hi:Nat,m=hi - lo→lo≤hi→hi≤l.length→
  (∀ j,j<lo→(A l j).f1<r)→(∀ j,hi≤j→j<l.length→r≤(A l j).f1)→∃ v,At l r v∧Evt (fun k=>span_Find.l0 k lo hi r l) v:=by
 intro m
 induction m using Nat.strongRecOn with
 |ind m ih=>
  intro lo hi hm hle hhi hlo hup
  by_cases hlt:lo<hi
  ·have hmid:(lo+hi) / 2<l.length:=by omega
   have hg:=(ht _ hmid).1
   by_cases hc:(A l ((lo+hi) / 2)).f1 - r<0
   ·have e1:wrap64 ((((lo+hi) / 2:Nat):Int)+1)=(((lo+hi) / 2+1:Nat):Int):=by rw[w64 _ (by omega)];omega
    obtain⟨v,hv,hE⟩:=ih (hi - ((lo+hi) / 2+1)) (by omega) ((lo+hi) / 2+1) hi rfl (by omega) hhi (fun j hj=>by
     by_cases e:j=(lo+hi) / 2
     ·subst e;omega
     ·have:=(ht.ends (show j≤(lo+hi) / 2 by omega) hmid).2;omega) hup
    refine⟨v,hv,Evt.step ?_⟩
    simp only[span_Find.l0,mid lo hi (by omega),rdA,e1]
    refine Evt.ifp (by omega) (Evt.ifp (by omega) (Evt.ifp (by omega) (Evt.bind (v:=(A l ((lo+hi) / 2)).f1 - r) (Evt.of_all fun k=>probe _ r hg hr) ?_)))
    exact Evt.ifp hc hE
   ·obtain⟨v,hv,hE⟩:=ih ((lo+hi) / 2 - lo) (by omega) lo ((lo+hi) / 2) rfl (by omega) (by omega) hlo (fun j hj hjl=>by
     have:=(ht.ends hj hjl).2;omega)
    refine⟨v,hv,Evt.step ?_⟩
    simp only[span_Find.l0,mid lo hi (by omega),rdA]
    refine Evt.ifp (by omega) (Evt.ifp (by omega) (Evt.ifp (by omega) (Evt.bind (v:=(A l ((lo+hi) / 2)).f1 - r) (Evt.of_all fun k=>probe _ r hg hr) ?_)))
    exact Evt.ifn hc hE
  ·obtain rfl:lo=hi:=by omega
   by_cases hl:lo<l.length
   ·have hg:=(ht _ hl).1
    by_cases h0:(A l lo).f0≤r
    ·refine⟨(A l lo).f2,.inl ⟨lo,hl,h0,hup lo (Nat.le_refl _) hl,rfl⟩,Evt.step ?_⟩
     simp only[span_Find.l0,rdA]
     refine Evt.ifn (by omega) (Evt.ifp (by omega) (Evt.ifp (by omega) (Evt.bind (v:=(A l lo).f1 - r) (Evt.of_all fun k=>probe _ r hg hr) ?_)))
     exact Evt.ifp h0 (Evt.now _)
    ·refine⟨0,.inr ⟨fun i hi h=>?_,rfl⟩,Evt.step ?_⟩
     ·by_cases e:i<lo
      ·have:=hlo i e;omega
      ·have:=(ht.ends (show lo≤i by omega) hi).1;omega
     simp only[span_Find.l0,rdA]
     refine Evt.ifn (by omega) (Evt.ifp (by omega) (Evt.ifp (by omega) (Evt.bind (v:=(A l lo).f1 - r) (Evt.of_all fun k=>probe _ r hg hr) ?_)))
     exact Evt.ifn h0 (Evt.now _)
   ·refine⟨0,.inr ⟨fun i hi h=>?_,rfl⟩,Evt.step ?_⟩
    ·have:=hlo i (by omega);omega
    simp only[span_Find.l0]
    exact Evt.ifn (by omega) (Evt.ifn (by omega) (Evt.now _))
theorem find_at (l:List S37) (ht:tab l) (hn:l.length≤500) (hs:Evt (fun k=>span_Check.f k l) 0) (r:Int) (hr: -2147483648≤r∧r≤2147483647):∃ v,At l r v∧Evt (fun k=>span_Find.f k l r) v:=by
 obtain⟨v,hv,hE⟩:=find_tab l hn ht r hr (l.length - 0) 0 l.length rfl (by omega) (Nat.le_refl _) (fun j hj=>absurd hj (by omega)) (fun j h1 h2=>absurd h1 (by omega))
 refine⟨v,hv,?_⟩
 unfold span_Find.f
 exact Evt.bind hs (Evt.ifp rfl hE)
/-- The plain search too. -/
theorem find_ref (l:List S37) (hn:l.length≤500) (hc:Evt (fun k=>toponymref02_Check.f k l) 0) (r:Int):∀ m i:Nat,m=l.length - i→i≤l.length→
  (∀ j,j<i→ ¬ ((A l j).f0≤r∧r≤(A l j).f1))→∃ v,At l r v∧Evt (fun k=>toponymref02_Find.l0 k i r l) v:=by
 intro m
 induction m with
 |zero=>
  intro i hm hi hp
  refine⟨0,.inr ⟨fun j hj=>hp j (by omega),rfl⟩,Evt.step ?_⟩
  simp only[toponymref02_Find.l0]
  exact Evt.ifn (by omega) (Evt.now _)
 |succ m ih=>
  intro i hm hi hp
  have e1:wrap64 ((i:Int)+1)=((i+1:Nat):Int):=by rw[w64 _ (by omega)];omega
  by_cases h:(A l i).f0≤r∧r≤(A l i).f1
  ·refine⟨(A l i).f2,.inl ⟨i,by omega,h.1,h.2,rfl⟩,Evt.step ?_⟩
   simp only[toponymref02_Find.l0,rdA]
   exact Evt.ifp (by omega) (Evt.bind hc (Evt.ifp rfl (Evt.ifp (by omega) (Evt.ifp h.1 (Evt.ifp h.2 (Evt.now _))))))
  ·obtain⟨v,hv,hE⟩:=ih (i+1) (by omega) (by omega) (fun j hj=>by
    by_cases e:j=i
    ·subst e;exact h
    ·exact hp j (by omega))
   refine⟨v,hv,Evt.step ?_⟩
   simp only[toponymref02_Find.l0,rdA,e1]
   refine Evt.ifp (by omega) (Evt.bind hc (Evt.ifp rfl (Evt.ifp (by omega) ?_)))
   by_cases h0:(A l i).f0≤r
   ·exact Evt.ifp h0 (Evt.ifn (fun h1=>h ⟨h0,h1⟩) hE)
   ·exact Evt.ifn h0 hE
theorem find_both (l:List S37) (r:Int) (hr: -2147483648≤r∧r≤2147483647):∃ v,Evt (fun k=>span_Find.f k l r) v∧Evt (fun k=>toponymref02_Find.f k l r) v:=by
 obtain⟨c,hc,hs,hf,ht⟩:=checks l
 rcases hc with rfl|rfl
 ·obtain⟨hn,ht⟩:=ht rfl
  obtain⟨v,hv,hE⟩:=find_at l ht hn hs r hr
  obtain⟨u,hu,hF⟩:=find_ref l hn hf r (l.length - 0) 0 rfl (by omega) (fun j hj=>absurd hj (by omega))
  refine⟨v,hE,?_⟩
  rw[At.uniq ht hv hu]
  unfold toponymref02_Find.f
  exact hF
 ·refine⟨0,?_,?_⟩
  ·unfold span_Find.f
   exact Evt.bind hs (Evt.ifn (by decide) (Evt.now _))
  ·unfold toponymref02_Find.f
   refine Evt.step ?_
   simp only[toponymref02_Find.l0]
   by_cases h0:(0:Int)<(l.length:Int)
   ·exact Evt.ifp h0 (Evt.bind hf (Evt.ifn (by decide) (Evt.now _)))
   ·exact Evt.ifn h0 (Evt.now _)
theorem count_both (l:List S37) (hn:l.length≤500) (ht:tab l) (hc:Evt (fun k=>toponymref02_Check.f k l) 0) (has:Int):∀ m i:Nat,∀ n:Int,m=l.length - i→i≤l.length→0≤n∧n≤i*1114112→
  ∃ v,Evt (fun k=>span_Count.l0 k n i has l) v∧Evt (fun k=>toponymref02_Count.l0 k n i has l) v:=by
 intro m
 induction m with
 |zero=>
  intro i n hm hi hb
  refine⟨n,Evt.step ?_,Evt.step ?_⟩
  ·simp only[span_Count.l0]
   exact Evt.ifn (by omega) (Evt.now _)
  ·simp only[toponymref02_Count.l0]
   exact Evt.ifn (by omega) (Evt.now _)
 |succ m ih=>
  intro i n hm hi hb
  have e1:wrap64 ((i:Int)+1)=((i+1:Nat):Int):=by rw[w64 _ (by omega)];omega
  obtain⟨g0,g1,g2⟩:=(ht i (by omega)).1
  by_cases h:(A l i).f2=has
  ·have e2:wrap64 (n+wrap64 (wrap64 (wrap32 ((A l i).f1 - (A l i).f0))+1))=n+((A l i).f1 - (A l i).f0+1):=by
    rw[w32 _ (by omega),w64 ((A l i).f1 - (A l i).f0) (by omega),w64 ((A l i).f1 - (A l i).f0+1) (by omega),w64 _ (by omega)]
   have e3:wrap64 (wrap64 (wrap64 (n+wrap64 (A l i).f1) - wrap64 (A l i).f0)+1)=n+((A l i).f1 - (A l i).f0+1):=by
    rw[w64 (A l i).f1 (by omega),w64 (A l i).f0 (by omega),w64 (n+(A l i).f1) (by omega),w64 (n+(A l i).f1 - (A l i).f0) (by omega),w64 _ (by omega)]
    omega
   obtain⟨v,hs,hr⟩:=ih (i+1) (n+((A l i).f1 - (A l i).f0+1)) (by omega) (by omega) (by omega)
   refine⟨v,Evt.step ?_,Evt.step ?_⟩
   ·simp only[span_Count.l0,rdA,e1,e2]
    exact Evt.ifp (by omega) (Evt.ifp (by omega) (Evt.ifp h hs))
   ·simp only[toponymref02_Count.l0,rdA,e1,e3]
    exact Evt.ifp (by omega) (Evt.bind hc (Evt.ifp rfl (Evt.ifp (by omega) (Evt.ifp h hr))))
  ·obtain⟨v,hs,hr⟩:=ih (i+1) n (by omega) (by omega) (by omega)
   refine⟨v,Evt.step ?_,Evt.step ?_⟩
   ·simp only[span_Count.l0,rdA,e1]
    exact Evt.ifp (by omega) (Evt.ifp (by omega) (Evt.ifn h hs))
   ·simp only[toponymref02_Count.l0,rdA,e1]
    exact Evt.ifp (by omega) (Evt.bind hc (Evt.ifp rfl (Evt.ifp (by omega) (Evt.ifn h hr))))
theorem counts (l:List S37) (has:Int):∃ v,Evt (fun k=>span_Count.f k l has) v∧Evt (fun k=>toponymref02_Count.f k l has) v:=by
 obtain⟨c,hc,hs,hf,ht⟩:=checks l
 rcases hc with rfl|rfl
 ·obtain⟨hn,ht⟩:=ht rfl
  obtain⟨v,h1,h2⟩:=count_both l hn ht hf has (l.length - 0) 0 0 rfl (by omega) (by omega)
  refine⟨v,?_,?_⟩
  ·unfold span_Count.f
   exact Evt.bind hs (Evt.ifp rfl h1)
  ·unfold toponymref02_Count.f
   exact h2
 ·refine⟨0,?_,?_⟩
  ·unfold span_Count.f
   exact Evt.bind hs (Evt.ifn (by decide) (Evt.now _))
  ·unfold toponymref02_Count.f
   refine Evt.step ?_
   simp only[toponymref02_Count.l0]
   by_cases h0:(0:Int)<(l.length:Int)
   ·exact Evt.ifp h0 (Evt.bind hf (Evt.ifn (by decide) (Evt.now _)))
   ·exact Evt.ifn h0 (Evt.now _)
end Go.Proofs.Ytcokpnajkkjclaa.SpA
