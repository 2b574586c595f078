import Derived.Test.YtdjkemhmhkpmkaaPbA
import Derived.Test.YtdjkemhmhkpmkaaGM2
import Derived.Test.YtdjkemhmhkpmkaaGM2
import Derived.Test.YtdjkemhmhkpmkaaGM2
import Derived.Test.YtdjkemhmhkpmkaaGM1
/- Plain laws of elements: their bytes, as the program lays them and as the document does. -/
namespace Go.Proofs.Ytdjkemhmhkpmkaa.PbA
open Go Go.RowKit Go.Proofs.Ytdjkemhmhkpmkaa.GA Go.Proofs.Ytdjkemhmhkpmkaa.OA Go.Proofs.Ytdjkemhmhkpmkaa.PuE Go.Proofs.YtdjkemhmhkpmkaaW.PrintWords Go.Proofs.YtdjkemhmhkpmkaaW.PrintLast Go.Proofs.YtdjkemhmhkpmkaaW.PrintMore
set_option linter.unusedVariables false
set_option linter.unusedSimpArgs false
/-! ### heads -/
def lenB (n:Nat):List UInt8:=if n<128 then[UInt8.ofNat n] else if n<256 then[129,UInt8.ofNat n] else[130,UInt8.ofNat (n / 256),UInt8.ofNat n]
def hb (t n:Nat):List UInt8:=UInt8.ofNat t::lenB n
theorem lenB_len (n:Nat):(lenB n).length=if n<128 then 1 else if n<256 then 2 else 3:=by
 unfold lenB
 split
 ·rfl
 ·split <;>rfl
theorem u8_mod (n:Nat):UInt8.ofNat (n % 256)=UInt8.ofNat n:=by
 apply UInt8.toNat_inj.1
 simp
theorem u8_int (n:Nat):UInt8.ofNat ((n:Int) % 256).toNat=UInt8.ofNat n:=by
 rw[show((n:Int) % 256).toNat=n % 256 by omega,u8_mod]
theorem length_eq (n:Nat) (h:n≤65535):ber_length.f (n:Int)=some (A8 (lenB n)):=by
 unfold ber_length.f lenB
 by_cases h1:n<128
 ·rw[if_pos (by omega),if_pos h1,son]
  simp only[List.map_cons,List.map_nil,u8_int]
 ·by_cases h2:n<256
  ·rw[if_neg (by omega),if_pos (by omega),if_neg h1,if_pos h2,son]
   simp only[List.map_cons,List.map_nil,u8_int]
   rfl
  ·rw[if_neg (by omega),if_neg (by omega),if_neg h1,if_neg h2,son]
   simp only[List.map_cons,List.map_nil,u8_int]
   rw[show UInt8.ofNat ((n:Int) / 256 % 256).toNat=UInt8.ofNat (n / 256) by rw[show((n:Int) / 256 % 256).toNat=(n / 256) % 256 by omega,u8_mod]]
   rfl
theorem tagsB:((List.range 4).all fun c=>(List.range 31).all fun n=>((Go.bits .or .i64 (wrap64 ((c:Int)*64)) (n:Int)) % 256==((64*c+n:Nat):Int)) && (Go.bits .or .u8 ((Go.bits .or .i64 (wrap64 ((c:Int)*64)) (n:Int)) % 256) 32==((64*c+n+32:Nat):Int)) && ((wrap64 ((wrap64 (64*(c:Int)))+(n:Int))) % 256==((64*c+n:Nat):Int)) && ((wrap64 ((wrap64 ((wrap64 (64*(c:Int)))+(n:Int)))+32)) % 256==((64*c+n+32:Nat):Int)))=true:=by kernel_rfl
theorem tags (c n:Nat) (hc:c<4) (hn:n<31):(Go.bits .or .i64 (wrap64 ((c:Int)*64)) (n:Int)) % 256=((64*c+n:Nat):Int)∧Go.bits .or .u8 ((Go.bits .or .i64 (wrap64 ((c:Int)*64)) (n:Int)) % 256) 32=((64*c+n+32:Nat):Int)∧(wrap64 ((wrap64 (64*(c:Int)))+(n:Int))) % 256=((64*c+n:Nat):Int)∧(wrap64 ((wrap64 ((wrap64 (64*(c:Int)))+(n:Int)))+32)) % 256=((64*c+n+32:Nat):Int):=by
 have h:=List.all_eq_true.1 (List.all_eq_true.1 tagsB c (List.mem_range.2 hc)) n (List.mem_range.2 hn)
 simp only[Bool.and_eq_true,beq_iff_eq] at h
 exact⟨h.1.1.1,h.1.1.2,h.1.2,h.2⟩
def tag (e:S57):Nat:=64*e.f0.toNat+e.f2.toNat+(if e.f1 then 32 else 0)
theorem tag_of (e:S57) (h:okL e=true):(e.f1=false→strOfNums ([(Go.bits .or .i64 (wrap64 (e.f0*64)) e.f2) % 256]:List Int)=A8 [UInt8.ofNat (tag e)]∧(wrap64 ((wrap64 (64*e.f0))+e.f2)) % 256=((tag e:Nat):Int))∧
  (e.f1=true→strOfNums ([Go.bits .or .u8 ((Go.bits .or .i64 (wrap64 (e.f0*64)) e.f2) % 256) 32]:List Int)=A8 [UInt8.ofNat (tag e)]∧(wrap64 ((wrap64 ((wrap64 (64*e.f0))+e.f2))+32)) % 256=((tag e:Nat):Int)):=by
 simp only[okL,Bool.and_eq_true,decide_eq_true_eq] at h
 obtain⟨⟨⟨⟨h0,h1⟩,h2⟩,h3⟩,h4⟩:=h
 have hc:∃ c:Nat,c<4∧e.f0=(c:Int):=⟨e.f0.toNat,by omega,by omega⟩
 have hn:∃ n:Nat,n<31∧e.f2=(n:Int):=⟨e.f2.toNat,by omega,by omega⟩
 obtain⟨c,hc,ec⟩:=hc
 obtain⟨n,hn,en⟩:=hn
 have e1:e.f0.toNat=c:=by rw[ec];rfl
 have e2:e.f2.toNat=n:=by rw[en];rfl
 obtain⟨t1,t2,t3,t4⟩:=tags c n hc hn
 rw[ec,en]
 refine⟨fun hm=>⟨?_,?_⟩,fun hm=>⟨?_,?_⟩⟩
 ·rw[t1,son]
  simp only[List.map_cons,List.map_nil,Int.toNat_natCast,tag,hm,e1,e2]
  rfl
 ·rw[t3]
  simp only[tag,hm,e1,e2]
  rfl
 ·rw[t2,son]
  simp only[List.map_cons,List.map_nil,Int.toNat_natCast,tag,hm,e1,e2]
  rfl
 ·rw[t4]
  simp only[tag,hm,e1,e2]
  rfl
/-- The bytes of an element. -/
def lay:Nat→S57→List UInt8
 |0,_=>[]
 |n+1,e=>hb (tag e) (if e.f1 then(e.f4.flatMap (lay n)).length else e.f3.size)++(if e.f1 then e.f4.flatMap (lay n) else B e.f3)
theorem lay_made (n:Nat) (e:S57) (h:e.f1=true):lay (n+1) e=hb (tag e) (e.f4.flatMap (lay n)).length++e.f4.flatMap (lay n):=by simp[lay,h]
theorem lay_plain (n:Nat) (e:S57) (h:e.f1=false):lay (n+1) e=hb (tag e) e.f3.size++B e.f3:=by simp[lay,h]
/-! ### a sheaf -/
def pt (x:List Int × Bool) (s:ByteArray):List Int × Bool:=if x.2 then(x.1,true) else if x.1.length+s.size≤4000 then(x.1++MB.numsOf s,false) else(x.1,true)
theorem pt_true (l:List Int) (s:ByteArray):pt (l,true) s=(l,true):=rfl
theorem pt_fits (l:List Int) (s:ByteArray) (h:l.length+s.size≤4000):pt (l,false) s=(l++MB.numsOf s,false):=by simp[pt,h]
theorem pt_not (l:List Int) (s:ByteArray) (h: ¬ l.length+s.size≤4000):pt (l,false) s=(l,true):=by simp[pt,h]
theorem pt_len (x:List Int × Bool) (s:ByteArray) (h:x.1.length≤4000):(pt x s).1.length≤4000:=by
 unfold pt
 split
 ·exact h
 ·split
  ·rename_i h2
   simp only[List.length_append,MB.numsOf_length]
   exact h2
  ·exact h
theorem put_eq (x:List Int × Bool) (s:ByteArray) (hl:x.1.length≤4000) (hs:s.size≤140737488351232):ber_sheaf_put.f x.1 x.2 s=some (pt x s):=by
 unfold ber_sheaf_put.f pt
 obtain⟨l,b⟩:=x
 simp only at hl ⊢
 cases b
 ·simp only[Bool.false_eq_true,if_false]
  rw[w64 _ (by omega)]
  by_cases h:l.length+s.size≤4000
  ·rw[if_neg (by omega),if_pos (by omega),if_pos h]
   simp only[Option.bind_some]
   rw[show decide ((l.length:Int)+(s.size:Int)>4000)=false from decide_eq_false (by omega)]
  ·rw[if_pos (by omega),if_neg h]
   rw[show decide ((l.length:Int)+(s.size:Int)>4000)=true from decide_eq_true (by omega)]
 ·simp
/-- What is told of what was laid: bytes b onto l. -/
def Laid (l:List Int) (b:List UInt8) (R:List Int × Bool):Prop:=R.1.length≤4000∧(l.length+b.length≤4000→R=(l++bn b,false))∧(4000<l.length+b.length→R.2=true)
theorem three (l:List Int) (hl:l.length≤4000) (t:Nat) (s:ByteArray):Laid l (hb t s.size++B s) (pt (pt (pt (l,false) (A8 [UInt8.ofNat t])) (A8 (lenB s.size))) s):=by
 refine⟨pt_len _ _ (pt_len _ _ (pt_len _ _ hl)),fun h=>?_,fun h=>?_⟩
 ·simp only[hb,List.cons_append,List.length_cons,List.length_append,len_B] at h
  rw[pt_fits _ _ (by rw[size_A8];simp;omega),pt_fits _ _ (by rw[size_A8,numsOf_A8];simp[bn];omega),pt_fits _ _ (by rw[numsOf_A8,numsOf_A8];simp[bn];omega)]
  rw[numsOf_A8,numsOf_A8,numsOf_B]
  simp[hb,bn]
 ·simp only[hb,List.cons_append,List.length_cons,List.length_append,len_B] at h
  by_cases h1:l.length+1≤4000
  ·rw[pt_fits _ _ (by rw[size_A8];simp;omega)]
   by_cases h2:l.length+1+(lenB s.size).length≤4000
   ·rw[pt_fits _ _ (by rw[size_A8,numsOf_A8];simp[bn];omega),pt_not _ _ (by rw[numsOf_A8,numsOf_A8];simp[bn];omega)]
   ·rw[pt_not _ _ (by rw[size_A8,numsOf_A8];simp[bn];omega),pt_true]
  ·rw[pt_not _ _ (by rw[size_A8];simp;omega),pt_true,pt_true]
theorem three_ev (x:List Int × Bool) (hl:x.1.length≤4000) (t:ByteArray) (ht:t.size≤10) (s:ByteArray) (hs:s.size≤140737488351232) (k:Nat):
  ((ber_sheaf_put.f x.1 x.2 t).bind fun b1=>if 65535<(s.size:Int) then((ber_length.f 65535).bind fun u=>((ber_sheaf_put.f b1.1 b1.2 u).bind fun b2=>((ber_sheaf_put.f b2.1 b2.2 s).bind fun b3=>(some (b3.1,b3.2))))) else((ber_length.f (s.size:Int)).bind fun u=>((ber_sheaf_put.f b1.1 b1.2 u).bind fun b2=>((ber_sheaf_put.f b2.1 b2.2 s).bind fun b3=>(some (b3.1,b3.2))))))=
   some (pt (pt (pt x t) (A8 (lenB (min s.size 65535)))) s):=by
 rw[put_eq x t hl (by omega)]
 simp only[Option.bind_some]
 have hlen:∀ n,(A8 (lenB n)).size≤140737488351232:=by
  intro n
  rw[size_A8,lenB_len]
  split
  ·omega
  ·split <;>omega
 by_cases h:65535<(s.size:Int)
 ·rw[if_pos h,show(65535:Int)=((65535:Nat):Int) from rfl,length_eq 65535 (by omega),show min s.size 65535=65535 by omega]
  simp only[Option.bind_some]
  rw[put_eq _ _ (pt_len _ _ hl) (hlen _)]
  simp only[Option.bind_some]
  rw[put_eq _ _ (pt_len _ _ (pt_len _ _ hl)) hs]
  rfl
 ·rw[if_neg h,length_eq s.size (by omega),show min s.size 65535=s.size by omega]
  simp only[Option.bind_some]
  rw[put_eq _ _ (pt_len _ _ hl) (hlen _)]
  simp only[Option.bind_some]
  rw[put_eq _ _ (pt_len _ _ (pt_len _ _ hl)) hs]
  rfl
/-- A body that is too great does not go in, whatever its length is called. -/
theorem three_big (l:List Int) (hl:l.length≤4000) (t:Nat) (s:ByteArray):Laid l (hb t s.size++B s) (pt (pt (pt (l,false) (A8 [UInt8.ofNat t])) (A8 (lenB (min s.size 65535)))) s):=by
 by_cases h:s.size≤65535
 ·rw[show min s.size 65535=s.size by omega]
  exact three l hl t s
 ·refine⟨pt_len _ _ (pt_len _ _ (pt_len _ _ hl)),fun h2=>?_,fun _=>?_⟩
  ·simp only[List.length_append,len_B] at h2
   omega
  ·generalize hx:pt (pt (l,false) (A8 [UInt8.ofNat t])) (A8 (lenB (min s.size 65535)))=x
   obtain⟨a,b⟩:=x
   cases b
   ·rw[pt_not _ _ (by omega)]
   ·rw[pt_true]
theorem lay_big (k:Nat) (l:List Int) (e:S57):ber_sheaf_lay.f (k+1) l true e.f0 e.f1 e.f2 e.f3 e.f4=some (l,true):=by simp[ber_sheaf_lay.f]
theorem lay_ev:∀ (n:Nat) (e:S57),W e→san n e=true→∀ l:List Int,l.length≤4000→∃ R,Evt (fun k=>ber_sheaf_lay.f k l false e.f0 e.f1 e.f2 e.f3 e.f4) R∧Laid l (lay n e) R
 |0,e,_,h=>by simp[san] at h
 |n+1,e,he,hs=>by
  intro l hl
  simp only[san,Bool.and_eq_true,List.all_eq_true] at hs
  obtain⟨hok,hkids⟩:=hs
  obtain⟨tg0,tg1⟩:=tag_of e hok
  cases hm:e.f1
  ·refine⟨pt (pt (pt (l,false) (A8 [UInt8.ofNat (tag e)])) (A8 (lenB (min e.f3.size 65535)))) e.f3,Evt.step (Evt.of_all fun k=>?_),?_⟩
   ·simp only[ber_sheaf_lay.f,Bool.false_eq_true,if_false]
    rw[(tg0 hm).1]
    exact three_ev (l,false) hl _ (by rw[size_A8];simp) e.f3 he.text k
   ·rw[lay_plain n e hm]
    exact three_big l hl (tag e) e.f3
  ·have loop:∀ (r p:List S57) (x:List Int) (b:Bool),e.f4=p++r→x.length≤4000→(b=false→x=bn (p.flatMap (lay n)))→(b=true→4000<(p.flatMap (lay n)).length)→
     ∃ R,Evt (fun k=>ber_sheaf_lay.l0 k (p.length:Int) x b e.f0 e.f2 l e.f4) R∧Laid l (lay (n+1) e) R:=by
    intro r
    induction r with
    |nil=>
     intro p x b hp hx h0 h1
     have hp':p=e.f4:=by rw[hp,List.append_nil]
     subst hp'
     have hend: ¬ (e.f4.length:Int)<(e.f4.length:Int):=by omega
     have hxs:(strOfNums x).size≤140737488351232:=by
      have:(strOfNums x).size=x.length:=by rw[son,size_A8,List.length_map]
      omega
     refine⟨pt (pt (pt (l,b) (A8 [UInt8.ofNat (tag e)])) (A8 (lenB (min (strOfNums x).size 65535)))) (strOfNums x),Evt.step (Evt.of_all fun k=>?_),?_⟩
     ·simp only[ber_sheaf_lay.l0,if_neg hend]
      rw[(tg1 hm).1]
      exact three_ev (l,b) hl _ (by rw[size_A8];simp) (strOfNums x) hxs k
     ·rw[lay_made n e hm]
      cases b
      ·rw[h0 rfl,son_nums]
       have:=three_big l hl (tag e) (A8 (e.f4.flatMap (lay n)))
       rw[size_A8,B_A8] at this
       rw[size_A8]
       exact this
      ·have h1':=h1 rfl
       rw[pt_true,pt_true,pt_true]
       refine⟨hl,fun h=>?_,fun _=>rfl⟩
       simp only[List.length_append] at h
       omega
    |cons y r ih=>
     intro p x b hp hx h0 h1
     have hnx:=next_len p y r (by rw[← hp];exact he.len)
     have hy:y ∈ e.f4:=by rw[hp];simp
     have hi:=fun x b=>ih (p++[y]) x b (by rw[hp,snoc])
     have hfl:(p++[y]).flatMap (lay n)=p.flatMap (lay n)++lay n y:=by simp
     rw[hfl] at hi
     cases b
     ·obtain⟨R1,e1,hR1⟩:=lay_ev n y (he.kid y hy) (hkids y hy) x hx
      obtain⟨z,bb⟩:=R1
      have hx':=h0 rfl
      have hxl:x.length=(p.flatMap (lay n)).length:=by rw[hx',len_nums]
      obtain⟨ha,hb1,hc⟩:=hR1
      obtain⟨R,e2,hR⟩:=hi z bb ha (fun hbb=>by
       by_cases hf:x.length+(lay n y).length≤4000
       ·have:=hb1 hf
        injection this with h2 h3
        rw[h2,hx',nums_app]
       ·have:=hc (by omega)
        simp only at this
        rw[this] at hbb
        cases hbb) (fun hbb=>by
       by_cases hf:x.length+(lay n y).length≤4000
       ·have:=hb1 hf
        injection this with h2 h3
        rw[h3] at hbb
        cases hbb
       ·rw[List.length_append]
        omega)
      refine⟨R,Evt.step ?_,hR⟩
      simp only[hp] at e2 ⊢
      simp only[ber_sheaf_lay.l0,if_pos (lt_mid p y r),if_pos (Int.natCast_nonneg p.length),rd_mid,hnx]
      exact Evt.bind e1 e2
     ·obtain⟨R,e2,hR⟩:=hi x true hx (fun h=>by cases h) (fun _=>by have:=h1 rfl;rw[List.length_append];omega)
      refine⟨R,Evt.step ?_,hR⟩
      simp only[hp] at e2 ⊢
      simp only[ber_sheaf_lay.l0,if_pos (lt_mid p y r),if_pos (Int.natCast_nonneg p.length),rd_mid,hnx]
      exact Evt.bind (Evt.step (Evt.of_all fun k=>lay_big k x y)) e2
   obtain⟨R,e1,hR⟩:=loop e.f4 [] [] false rfl (by simp) (fun _=>rfl) (fun h=>by cases h)
   refine⟨R,Evt.step ?_,hR⟩
   simp only[ber_sheaf_lay.f,Bool.false_eq_true,if_false,if_true]
   exact e1
/-! ### how great -/
def fin (m:Int):Int:=if m>4000 then 100000 else if m≥256 then m+4 else if m≥128 then m+3 else m+2
def sz:Nat→S57→Int
 |0,_=>0
 |n+1,e=>fin (e.f4.foldl (fun m y=>if m≤4000 then m+sz n y else m) (e.f3.size:Int))
theorem sz_stay (n:Nat) (l:List S57) (m:Int) (h:4000<m):l.foldl (fun m y=>if m≤4000 then m+sz n y else m) m=m:=by
 induction l with
 |nil=>rfl
 |cons y l ih=>
  rw[List.foldl_cons,if_neg (by omega)]
  exact ih
theorem fin_le (m:Int) (h:0≤m):0≤fin m∧fin m≤100000:=by
 unfold fin
 split
 ·omega
 ·split
  ·omega
  ·split <;>omega
theorem sz_le:∀ (n:Nat) (e:S57),0≤sz n e∧sz n e≤100000
 |0,e=>by simp[sz]
 |n+1,e=>by
  have key:∀ (l:List S57) (m:Int),0≤m→0≤l.foldl (fun m y=>if m≤4000 then m+sz n y else m) m:=by
   intro l
   induction l with
   |nil=>intro m h;exact h
   |cons y l ih=>
    intro m h
    have:=sz_le n y
    rw[List.foldl_cons]
    split
    ·exact ih _ (by omega)
    ·exact ih _ h
  exact fin_le _ (key _ _ (by omega))
theorem fin_eq (m:Int) (h0:0≤m):(if m>4000 then(some 100000) else(if m≥256 then(some (wrap64 (m+4))) else(if m≥128 then(some (wrap64 (m+3))) else(some (wrap64 (m+2))))))=some (fin m):=by
 unfold fin
 by_cases h1:m>4000
 ·rw[if_pos h1,if_pos h1]
 ·rw[if_neg h1,if_neg h1,w64 _ (by omega),w64 _ (by omega),w64 _ (by omega)]
  split
  ·rfl
  ·split <;>rfl
theorem hb_len (t n:Nat):(hb t n).length=if n<128 then 2 else if n<256 then 3 else 4:=by
 unfold hb
 rw[List.length_cons,lenB_len]
 split
 ·rfl
 ·split <;>rfl
theorem fin_hb (m:Int) (t n:Nat) (h:(m≤4000↔n≤4000)∧(m≤4000→m=n)):(fin m≤4000↔(hb t n).length+n≤4000)∧(fin m≤4000→fin m=(((hb t n).length+n:Nat):Int)):=by
 obtain⟨h1,h2⟩:=h
 rw[hb_len]
 unfold fin
 by_cases hm:m≤4000
 ·have hn:=h2 hm
  subst hn
  rw[if_neg (by omega)]
  by_cases h3:n<128
  ·rw[if_neg (by omega),if_neg (by omega),if_pos h3]
   omega
  ·by_cases h4:n<256
   ·rw[if_neg (by omega),if_pos (by omega),if_neg h3,if_pos h4]
    omega
   ·rw[if_pos (by omega),if_neg h3,if_neg h4]
    omega
 ·have hn: ¬ n≤4000:=fun h=>hm (h1.2 h)
  rw[if_pos (by omega)]
  constructor
  ·constructor
   ·intro h;omega
   ·intro h;omega
  ·intro h;omega
theorem sz_lay:∀ (n:Nat) (e:S57),san n e=true→(sz n e≤4000↔(lay n e).length≤4000)∧(sz n e≤4000→sz n e=((lay n e).length:Int))
 |0,e,h=>by simp[san] at h
 |n+1,e,hs=>by
  simp only[san,Bool.and_eq_true,List.all_eq_true] at hs
  obtain⟨hok,hkids⟩:=hs
  simp only[okL,Bool.and_eq_true,decide_eq_true_eq] at hok
  obtain⟨_,hok⟩:=hok
  cases hm:e.f1
  ·simp only[hm,Bool.false_eq_true,if_false,decide_eq_true_eq] at hok
   have hl:e.f4=[]:=List.eq_nil_of_length_eq_zero hok
   rw[lay_plain n e hm,List.length_append,len_B]
   simp only[sz,hl,List.foldl_nil]
   exact fin_hb _ _ _ ⟨by omega,fun _=>rfl⟩
  ·simp only[hm,if_true,decide_eq_true_eq] at hok
   rw[lay_made n e hm,List.length_append]
   simp only[sz,hok]
   refine fin_hb _ _ _ ?_
   have key:∀ (l:List S57) (m:Int) (a:Nat),(∀ y ∈ l,y ∈ e.f4)→m=(a:Int)→(l.foldl (fun m y=>if m≤4000 then m+sz n y else m) m≤4000↔a+(l.flatMap (lay n)).length≤4000)∧(l.foldl (fun m y=>if m≤4000 then m+sz n y else m) m≤4000→l.foldl (fun m y=>if m≤4000 then m+sz n y else m) m=((a+(l.flatMap (lay n)).length:Nat):Int)):=by
    intro l
    induction l with
    |nil=>
     intro m a _ hma
     simp only[List.foldl_nil,List.flatMap_nil,List.length_nil]
     omega
    |cons y l ih=>
     intro m a hsub hma
     obtain⟨i1,i2⟩:=sz_lay n y (hkids y (hsub y (by simp)))
     have hb:=sz_le n y
     rw[List.foldl_cons,List.flatMap_cons,List.length_append]
     by_cases hm4:m≤4000
     ·rw[if_pos hm4]
      by_cases hy:sz n y≤4000
      ·have:=i2 hy
       obtain⟨j1,j2⟩:=ih (m+sz n y) (a+(lay n y).length) (fun z hz=>hsub z (by simp[hz])) (by omega)
       rw[Nat.add_assoc] at j1 j2
       exact⟨j1,j2⟩
      ·have hne: ¬ (lay n y).length≤4000:=fun h=>hy (i1.2 h)
       rw[sz_stay n l _ (by omega)]
       constructor
       ·constructor
        ·intro h;omega
        ·intro h;omega
       ·intro h;omega
     ·rw[if_neg hm4,sz_stay n l _ (by omega)]
      constructor
      ·constructor
       ·intro h;omega
       ·intro h;omega
      ·intro h;omega
   have:=key e.f4 ((0:Nat):Int) 0 (fun y hy=>hy) rfl
   simpa using this
/-! ### what may be laid -/
def chk (e:S57):Int:=if dpt 12 e>12 then 153 else if san 12 e=true then(if (lay 12 e).length≤4000 then 0 else 3) else 2
theorem Check_ev (e:S57) (h:W e):Evt (fun k=>ber_Check.f k e.f0 e.f1 e.f2 e.f3 e.f4) (chk e):=by
 unfold ber_Check.f chk
 refine Evt.bind (Deep_ev e h) ?_
 by_cases hd:dpt 12 e>12
 ·simp only[if_pos hd]
  exact Evt.now _
 ·simp only[if_neg hd]
  have hdl:dle 12 e=true:=(dpt_dle 12 e).1 (by omega)
  refine Evt.bind (sane_ev 12 e h hdl) ?_
  cases hs:san 12 e
  ·simp only[Bool.false_eq_true,if_false]
   exact Evt.now _
  ·simp only[if_true]
   obtain⟨R,e1,hR⟩:=lay_ev 12 e h hs [] (by simp)
   unfold ber_one.f
   refine Evt.bind (Evt.bind e1 (Evt.now _)) ?_
   by_cases hf:(lay 12 e).length≤4000
   ·rw[hR.2.1 (by simpa using hf)]
    simp only[Bool.not_false,if_true,if_pos hf]
    exact Evt.now _
   ·rw[hR.2.2 (by simp;omega)]
    simp only[Bool.not_true,Bool.false_eq_true,if_false,if_neg hf]
    exact Evt.now _
theorem chk_zero (e:S57):chk e=0↔san 12 e=true∧(lay 12 e).length≤4000:=by
 unfold chk
 by_cases hd:dpt 12 e>12
 ·rw[if_pos hd]
  constructor
  ·intro h;omega
  ·rintro⟨h,_⟩
   have:=(dpt_dle 12 e).2 (san_dle 12 e h)
   omega
 ·rw[if_neg hd]
  by_cases hs:san 12 e=true
  ·rw[if_pos hs]
   by_cases hf:(lay 12 e).length≤4000
   ·simp[hs,hf]
   ·simp[hf]
  ·simp[hs]
/-- The first refusal among elements. -/
def fb:List S57→Int
 |[]=>0
 |y::r=>if chk y=0 then fb r else chk y
theorem fb_zero:∀ l:List S57,fb l=0→∀ y ∈ l,chk y=0
 |[],_,y,hy=>by simp at hy
 |z::r,h,y,hy=>by
  unfold fb at h
  by_cases hz:chk z=0
  ·rw[if_pos hz] at h
   rcases List.mem_cons.1 hy with rfl|hy
   ·exact hz
   ·exact fb_zero r h y hy
  ·rw[if_neg hz] at h
   exact absurd h hz
def enc (l:List S57):ByteArray × Int:=if fb l=0 then(if (l.flatMap (lay 12)).length≤4000 then(A8 (l.flatMap (lay 12)),0) else(⟨#[]⟩,3)) else(⟨#[]⟩,fb l)
theorem Encode_ev (l:List S57) (hw:∀ y ∈ l,W y) (hlen:l.length≤140737488351232):Evt (fun k=>ber_Encode.f k l) (enc l):=by
 have l1:∀ (r p:List S57) (x:List Int) (b:Bool),l=p++r→(∀ y ∈ r,chk y=0)→x.length≤4000→(b=false→x=bn (p.flatMap (lay 12)))→(b=true→4000<(p.flatMap (lay 12)).length)→
   Evt (fun k=>ber_Encode.l1 k (p.length:Int) x b l) (if (l.flatMap (lay 12)).length≤4000 then(A8 (l.flatMap (lay 12)),0) else(⟨#[]⟩,3)):=by
  intro r
  induction r with
  |nil=>
   intro p x b hp _ hx h0 h1
   have hp':p=l:=by rw[hp,List.append_nil]
   subst hp'
   refine Evt.step ?_
   have hend: ¬ (p.length:Int)<(p.length:Int):=by omega
   simp only[ber_Encode.l1,if_neg hend]
   cases b
   ·have hx':=h0 rfl
    have hxl:x.length=(p.flatMap (lay 12)).length:=by rw[hx',len_nums]
    simp only[Bool.false_eq_true,if_false,if_pos (show(p.flatMap (lay 12)).length≤4000 by omega),hx',son_nums]
    exact Evt.now _
   ·have:=h1 rfl
    simp only[if_true,if_neg (show ¬ (p.flatMap (lay 12)).length≤4000 by omega)]
    exact Evt.now _
  |cons y r ih=>
   intro p x b hp hc hx h0 h1
   have hnx:=next_len p y r (by rw[← hp];exact hlen)
   have hy:y ∈ l:=by rw[hp];simp
   have hi:=fun x b=>ih (p++[y]) x b (by rw[hp,snoc]) (fun z hz=>hc z (by simp[hz]))
   have hfl:(p++[y]).flatMap (lay 12)=p.flatMap (lay 12)++lay 12 y:=by simp
   rw[hfl] at hi
   obtain⟨hsy,_⟩:=(chk_zero y).1 (hc y (by simp))
   cases b
   ·obtain⟨R1,e1,hR1⟩:=lay_ev 12 y (hw y hy) hsy x hx
    obtain⟨z,bb⟩:=R1
    have hx':=h0 rfl
    have hxl:x.length=(p.flatMap (lay 12)).length:=by rw[hx',len_nums]
    obtain⟨ha,hb1,hc2⟩:=hR1
    have e2:=hi z bb ha (fun hbb=>by
     by_cases hf:x.length+(lay 12 y).length≤4000
     ·have:=hb1 hf
      injection this with h2 h3
      rw[h2,hx',nums_app]
     ·have:=hc2 (by omega)
      simp only at this
      rw[this] at hbb
      cases hbb) (fun hbb=>by
     by_cases hf:x.length+(lay 12 y).length≤4000
     ·have:=hb1 hf
      injection this with h2 h3
      rw[h3] at hbb
      cases hbb
     ·rw[List.length_append]
      omega)
    refine Evt.step ?_
    simp only[hp] at e2 ⊢
    simp only[ber_Encode.l1,if_pos (lt_mid p y r),if_pos (Int.natCast_nonneg p.length),rd_mid,hnx]
    exact Evt.bind e1 e2
   ·have e2:=hi x true hx (fun h=>by cases h) (fun _=>by have:=h1 rfl;rw[List.length_append];omega)
    refine Evt.step ?_
    simp only[hp] at e2 ⊢
    simp only[ber_Encode.l1,if_pos (lt_mid p y r),if_pos (Int.natCast_nonneg p.length),rd_mid,hnx]
    exact Evt.bind (Evt.step (Evt.of_all fun k=>lay_big k x y)) e2
 have l0:∀ (r p:List S57),l=p++r→fb l=fb r→Evt (fun k=>ber_Encode.l0 k (p.length:Int) l) (enc l):=by
  intro r
  induction r with
  |nil=>
   intro p hp hf
   refine Evt.step ?_
   have hend: ¬ (p.length:Int)<(l.length:Int):=by rw[hp];simp
   simp only[ber_Encode.l0,if_neg hend,enc,hf,fb,if_true]
   exact l1 l [] [] false rfl (fun y hy=>fb_zero l (by rw[hf];rfl) y hy) (by simp) (fun _=>rfl) (fun h=>by cases h)
  |cons y r ih=>
   intro p hp hf
   refine Evt.step ?_
   have hnx:=next_len p y r (by rw[← hp];exact hlen)
   have hy:y ∈ l:=by rw[hp];simp
   have hi:=ih (p++[y]) (by rw[hp,snoc])
   have e1:=Check_ev y (hw y hy)
   by_cases hc:chk y=0
   ·have hf2:fb l=fb r:=by rw[hf,fb,if_pos hc]
    have hi:=hi hf2
    generalize hE:enc l=E at hi ⊢
    simp only[hp] at hi ⊢
    simp only[ber_Encode.l0,if_pos (lt_mid p y r),if_pos (Int.natCast_nonneg p.length),rd_mid,hnx]
    refine Evt.bind e1 ?_
    simp only[if_pos hc]
    exact hi
   ·have hf2:fb l=chk y:=by rw[hf,fb,if_neg hc]
    have hE:enc l=(⟨#[]⟩,chk y):=by unfold enc;rw[hf2,if_neg hc]
    rw[hE]
    simp only[hp]
    simp only[ber_Encode.l0,if_pos (lt_mid p y r),if_pos (Int.natCast_nonneg p.length),rd_mid,hnx]
    refine Evt.bind e1 ?_
    simp only[if_neg hc]
    exact Evt.now _
 exact l0 l [] rfl rfl
end Go.Proofs.Ytdjkemhmhkpmkaa.PbA
