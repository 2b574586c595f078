import Derived.Test.YtdjkemhmhkpmkaaPuEv
import Derived.Test.YtdjkemhmhkpmkaaOA
import Derived.Test.YtdjkemhmhkpmkaaGM1
import Derived.Test.YtdjkemhmhkpmkaaGM1
import Derived.Test.YtdjkemhmhkpmkaaGM1
/- Plain laws of elements: how deep, what may be, how great, and their bytes: what the program's functions and the document's tell. -/
namespace Go.Proofs.Ytdjkemhmhkpmkaa.PbA
open Go Go.RowKit Go.Proofs.Ytdjkemhmhkpmkaa.GA Go.Proofs.Ytdjkemhmhkpmkaa.OA Go.Proofs.Ytdjkemhmhkpmkaa.PuE Go.Proofs.YtdjkemhmhkpmkaaW.PrintWords Go.Proofs.YtdjkemhmhkpmkaaW.PrintLast Go.Proofs.YtdjkemhmhkpmkaaW.PrintMore
set_option linter.unusedVariables false
set_option linter.unusedSimpArgs false
/-- Lists so short that a machine holds them. -/
inductive W:S57→Prop
 |mk (e:S57) (h3:e.f3.size≤140737488351232) (h4:e.f4.length≤140737488351232) (h:∀ y ∈ e.f4,W y):W e
theorem W.text {e:S57}:W e→e.f3.size≤140737488351232
 |.mk _ h _ _=>h
theorem W.len {e:S57}:W e→e.f4.length≤140737488351232
 |.mk _ _ h _=>h
theorem W.kid {e:S57}:W e→∀ y ∈ e.f4,W y
 |.mk _ _ _ h=>h
theorem rd_mid (p:List S57) (y:S57) (r:List S57):rd_T57 (p++y::r) (p.length:Int)=y:=by
 unfold rd_T57
 simp
theorem next_len (p:List S57) (y:S57) (r:List S57) (h:(p++y::r).length≤140737488351232):wrap64 ((p.length:Int)+1)=((p++[y]).length:Int):=by
 simp at h ⊢
 rw[w64 _ (by omega)]
theorem lt_mid (p:List S57) (y:S57) (r:List S57):(p.length:Int)<((p++y::r).length:Int):=by
 simp;omega
theorem nlt_end (p:List S57): ¬ (p.length:Int)<((p++[]).length:Int):=by simp
theorem snoc (p:List S57) (y:S57) (r:List S57):p++y::r=(p++[y])++r:=by simp
/-! ### how deep -/
def dpt:Nat→S57→Int
 |0,_=>1
 |n+1,e=>(e.f4.foldl (fun m y=>max m (dpt n y)) 0)+1
theorem dpt_le:∀ (n:Nat) (e:S57),1≤dpt n e∧dpt n e≤n+1
 |0,e=>by simp[dpt]
 |n+1,e=>by
  have key:∀ (l:List S57) (m:Int),0≤m→m≤n+1→0≤l.foldl (fun m y=>max m (dpt n y)) m∧l.foldl (fun m y=>max m (dpt n y)) m≤n+1:=by
   intro l
   induction l with
   |nil=>intro m h0 h1;exact⟨h0,h1⟩
   |cons y l ih=>
    intro m h0 h1
    have:=dpt_le n y
    exact ih (max m (dpt n y)) (by omega) (by omega)
  have:=key e.f4 0 (by omega) (by omega)
  simp only[dpt]
  omega
theorem depth_ev:∀ (n:Nat),n≤12→∀ e:S57,W e→Evt (fun k=>ber_depth.f k e.f0 e.f1 e.f2 e.f3 e.f4 (n:Int)) (dpt n e)
 |0,_,e,_=>by
  refine Evt.step ?_
  simp only[ber_depth.f,dpt]
  exact Evt.now _
 |n+1,hn,e,he=>by
  have loop:∀ (r p:List S57) (m:Int),e.f4=p++r→0≤m→m≤13→Evt (fun k=>ber_depth.l0 k m (p.length:Int) ((n+1:Nat):Int) e.f4) (r.foldl (fun m y=>max m (dpt n y)) m+1):=by
   intro r
   induction r with
   |nil=>
    intro p m hl h0 h1
    refine Evt.step ?_
    simp only[ber_depth.l0,hl,if_neg (nlt_end p),List.foldl_nil]
    rw[w64 _ (by omega)]
    exact Evt.now _
   |cons y r ih=>
    intro p m hl h0 h1
    have hb:=dpt_le n y
    refine Evt.step ?_
    have hw:wrap64 (((n+1:Nat):Int) - 1)=(n:Int):=by rw[w64 _ (by omega)];omega
    have hnx:=next_len p y r (by rw[← hl];exact he.len)
    have hi:=fun m h0 h1=>ih (p++[y]) m (by rw[hl,snoc]) h0 h1
    simp only[hl] at hi ⊢
    simp only[ber_depth.l0,if_pos (lt_mid p y r),if_pos (Int.natCast_nonneg p.length),rd_mid,hw,hnx,List.foldl_cons]
    refine Evt.bind (depth_ev n (by omega) y (he.kid y (by rw[hl];simp))) ?_
    by_cases hx:m<dpt n y
    ·simp only[if_pos hx,show max m (dpt n y)=dpt n y by omega]
     exact hi _ (by omega) (by omega)
    ·simp only[if_neg hx,show max m (dpt n y)=m by omega]
     exact hi _ (by omega) (by omega)
  refine Evt.step ?_
  have hne: ¬ ((n+1:Nat):Int)=0:=by omega
  simp only[ber_depth.f,if_neg hne,dpt]
  exact loop e.f4 [] 0 rfl (by omega) (by omega)
theorem Deep_ev (e:S57) (h:W e):Evt (fun k=>ber_Deep.f k e.f0 e.f1 e.f2 e.f3 e.f4) (dpt 12 e):=Evt.bind (depth_ev 12 (by omega) e h) (Evt.now _)
/-- No deeper than n. -/
def dle:Nat→S57→Bool
 |0,_=>false
 |n+1,e=>e.f4.all (dle n)
theorem dpt_dle:∀ (n:Nat) (e:S57),dpt n e≤n↔dle n e=true
 |0,e=>by simp[dpt,dle]
 |n+1,e=>by
  have key:∀ (l:List S57) (m:Int),0≤m→(l.foldl (fun m y=>max m (dpt n y)) m≤n↔m≤n∧l.all (dle n)=true):=by
   intro l
   induction l with
   |nil=>intro m h0;simp
   |cons y l ih=>
    intro m h0
    have:=dpt_le n y
    have h2:=dpt_dle n y
    rw[List.foldl_cons,ih (max m (dpt n y)) (by omega),List.all_cons,Bool.and_eq_true,← h2]
    constructor
    ·rintro⟨a,b⟩;exact⟨by omega,by omega,b⟩
    ·rintro⟨a,b,c⟩;exact⟨by omega,c⟩
  have:=key e.f4 0 (by omega)
  simp only[dpt,dle]
  rw[← (show(0:Int)≤n∧e.f4.all (dle n)=true↔e.f4.all (dle n)=true from⟨fun h=>h.2,fun h=>⟨by omega,h⟩⟩),← this]
  omega
/-! ### what may be -/
def okL (e:S57):Bool:=decide (0≤e.f0) && decide (e.f0≤3) && decide (0≤e.f2) && decide (e.f2≤30) && (if e.f1 then decide (e.f3.size=0) else decide (e.f4.length=0))
def san:Nat→S57→Bool
 |0,_=>false
 |n+1,e=>okL e && e.f4.all (san n)
theorem toList_nil (s:ByteArray):s.toList=([]:List UInt8)↔s.size=0:=by
 rw[toList_B,← len_B,List.length_eq_zero_iff]
theorem sane_ev:∀ (n:Nat) (e:S57),W e→dle n e=true→Evt (fun k=>ber_sane.f k e.f0 e.f1 e.f2 e.f3 e.f4) (san n e)
 |0,e,_,h=>by simp[dle] at h
 |n+1,e,he,hd=>by
  simp only[dle,List.all_eq_true] at hd
  have loop:∀ (r p:List S57),e.f4=p++r→Evt (fun k=>ber_sane.l0 k (p.length:Int) e.f4) (r.all (san n)):=by
   intro r
   induction r with
   |nil=>
    intro p hl
    refine Evt.step ?_
    simp only[ber_sane.l0,hl,if_neg (nlt_end p),List.all_nil]
    exact Evt.now _
   |cons y r ih=>
    intro p hl
    refine Evt.step ?_
    have hnx:=next_len p y r (by rw[← hl];exact he.len)
    have hi:=ih (p++[y]) (by rw[hl,snoc])
    have hy:y ∈ e.f4:=by rw[hl];simp
    simp only[hl] at hi ⊢
    simp only[ber_sane.l0,if_pos (lt_mid p y r),if_pos (Int.natCast_nonneg p.length),rd_mid,hnx,List.all_cons]
    refine Evt.bind (sane_ev n y (he.kid y hy) (hd y hy)) ?_
    cases hs:san n y
    ·simp only[Bool.false_eq_true,if_false,Bool.false_and]
     exact Evt.now _
    ·simp only[if_true,Bool.true_and]
     exact hi
  refine Evt.step ?_
  simp only[ber_sane.f,san,okL]
  by_cases h0:e.f0<0
  ·simp only[if_pos h0,show decide (0≤e.f0)=false from decide_eq_false (by omega),Bool.false_and]
   exact Evt.now _
  by_cases h1:e.f0>3
  ·simp only[if_neg h0,if_pos h1,show decide (e.f0≤3)=false from decide_eq_false (by omega),Bool.false_and,Bool.and_false]
   exact Evt.now _
  by_cases h2:e.f2<0
  ·simp only[if_neg h0,if_neg h1,if_pos h2,show decide (0≤e.f2)=false from decide_eq_false (by omega),Bool.false_and,Bool.and_false]
   exact Evt.now _
  by_cases h3:e.f2>30
  ·simp only[if_neg h0,if_neg h1,if_neg h2,if_pos h3,show decide (e.f2≤30)=false from decide_eq_false (by omega),Bool.false_and,Bool.and_false]
   exact Evt.now _
  simp only[if_neg h0,if_neg h1,if_neg h2,if_neg h3,show decide (0≤e.f0)=true from decide_eq_true (by omega),show decide (e.f0≤3)=true from decide_eq_true (by omega),show decide (0≤e.f2)=true from decide_eq_true (by omega),show decide (e.f2≤30)=true from decide_eq_true (by omega),Bool.true_and]
  cases hm:e.f1
  ·simp only[Bool.false_eq_true,if_false]
   by_cases hz:(e.f4.length:Int)>0
   ·simp only[if_pos hz,show decide (e.f4.length=0)=false from decide_eq_false (by omega),Bool.false_and]
    exact Evt.now _
   ·have hl:e.f4=[]:=List.eq_nil_of_length_eq_zero (by omega)
    simp only[if_neg hz,hl,List.length_nil,decide_true,Bool.true_and,List.all_nil]
    refine Evt.step ?_
    simp only[ber_sane.l1,List.length_nil,Int.natCast_zero,Int.lt_irrefl,if_false]
    exact Evt.now _
  ·simp only[if_true]
   by_cases hz:e.f3.toList=([]:List UInt8)
   ·simp only[if_pos hz,show decide (e.f3.size=0)=true from decide_eq_true ((toList_nil _).1 hz),Bool.true_and]
    exact loop e.f4 [] rfl
   ·simp only[if_neg hz,show decide (e.f3.size=0)=false from decide_eq_false (fun h=>hz ((toList_nil _).2 h)),Bool.false_and]
    exact Evt.now _
theorem san_dle:∀ (n:Nat) (e:S57),san n e=true→dle n e=true
 |0,e,h=>by simp[san] at h
 |n+1,e,h=>by
  simp only[san,dle,Bool.and_eq_true,List.all_eq_true] at h ⊢
  exact fun y hy=>san_dle n y (h.2 y hy)
end Go.Proofs.Ytdjkemhmhkpmkaa.PbA
