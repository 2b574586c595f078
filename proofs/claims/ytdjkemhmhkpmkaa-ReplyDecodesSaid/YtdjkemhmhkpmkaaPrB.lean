import Derived.Test.YtdjkemhmhkpmkaaPbT
import Derived.Test.YtdjkemhmhkpmkaaPrI
import Derived.Test.YtdjkemhmhkpmkaaGM1
import Derived.Test.YtdjkemhmhkpmkaaGM1
import Derived.Test.YtdjkemhmhkpmkaaGAF25
import Derived.Test.YtdjkemhmhkpmkaaGM1
import Derived.Test.YtdjkemhmhkpmkaaGAF42
import Derived.Test.YtdjkemhmhkpmkaaGAF43
import Derived.Test.YtdjkemhmhkpmkaaPrS
/- Plain laws of replies: what may be, and the element that a reply is laid as. -/
namespace Go.Proofs.Ytdjkemhmhkpmkaa.PrB
open Go Go.RowKit Go.Proofs.Ytdjkemhmhkpmkaa.GA Go.Proofs.Ytdjkemhmhkpmkaa.OA Go.Proofs.Ytdjkemhmhkpmkaa.PuE Go.Proofs.Ytdjkemhmhkpmkaa.PrI Go.Proofs.Ytdjkemhmhkpmkaa.PrS Go.Proofs.YtdjkemhmhkpmkaaW.PrintWords Go.Proofs.YtdjkemhmhkpmkaaW.PrintLast Go.Proofs.YtdjkemhmhkpmkaaW.PrintMore
set_option linter.unusedVariables false
set_option linter.unusedSimpArgs false
theorem Evt.uniq {α :Type} {f:Nat→Option α} {v u: α} (h1:Evt f v) (h2:Evt f u):v=u:=by
 obtain⟨K,hK⟩:=h1
 obtain⟨L,hL⟩:=h2
 have a:=hK (max K L) (by omega)
 have b:=hL (max K L) (by omega)
 rw[a] at b
 exact Option.some.inj b
/-! ### words -/
theorem small_ev (n:Int):∃ t,dn_small.f n=some t:=by
 unfold dn_small.f
 split <;>exact⟨_,rfl⟩
theorem word_l0 (s:ByteArray) (hs:(s.size:Int)≤16):∀ (k:Nat) (i:Int),0≤i→i≤17→18 - i.toNat≤k→∃ b,dn_Word.l0 k i s=some b
 |0,i,h0,h1,hk=>by omega
 |k+1,i,h0,h1,hk=>by
  unfold dn_Word.l0
  by_cases h:i<(s.size:Int)
  ·have hw:wrap64 (i+1)=i+1:=w64 _ (by omega)
   obtain⟨b,hb⟩:=word_l0 s hs k (i+1) (by omega) (by omega) (by omega)
   obtain⟨t,ht⟩:=small_ev (bt s i)
   rw[if_pos h,if_pos h0,hw,ht,hb]
   simp only[Option.bind_some]
   repeat' first
   |exact⟨b,rfl⟩
   |exact⟨_,rfl⟩
   |split
  ·rw[if_neg h];exact⟨true,rfl⟩
theorem word_ev (s:ByteArray):∃ b,(b=true→s.size≤16)∧Evt (fun k=>dn_Word.f k s) b:=by
 have key:∃ b,(b=true→s.size≤16)∧dn_Word.f 20 s=some b:=by
  unfold dn_Word.f
  by_cases h0:s.toList=([]:List UInt8)
  ·exact⟨false,by simp,if_pos h0⟩
  ·rw[if_neg h0]
   by_cases h1:(s.size:Int)>16
   ·exact⟨false,by simp,if_pos h1⟩
   ·have hz:=(not_congr (PbA.toList_nil s)).1 h0
    rw[if_neg h1,if_pos (by omega)]
    obtain⟨t,ht⟩:=small_ev (bt s 0)
    obtain⟨b,hb⟩:=word_l0 s (by omega) 20 1 (by omega) (by omega) (by decide)
    rw[ht,hb]
    simp only[Option.bind_some]
    split
    ·exact⟨b,fun _=>by omega,rfl⟩
    ·exact⟨false,by simp,rfl⟩
 obtain⟨b,h1,h2⟩:=key
 exact⟨b,h1,Evt.mono_ (fun k=>dn_Word.mono s k) h2⟩
/-! ### what may be -/
theorem wrong_ev (v:S46) (hl:v.f1.length≤140737488351232):∃ b,(b=false→v.f0.size≤16∧v.f1.length≤8∧∀ s ∈ v.f1,s.size≤400)∧Evt (fun k=>reply_wrong.f k v.f0 v.f1) b:=by
 have loop:∀ (r p:List ByteArray),v.f1=p++r→∃ b,(b=false→∀ s ∈ r,s.size≤400)∧Evt (fun k=>reply_wrong.l0 k (p.length:Int) v.f1) b:=by
  intro r
  induction r with
  |nil=>
   intro p hp
   refine⟨false,by simp,Evt.step ?_⟩
   rw[hp]
   simp only[reply_wrong.l0,if_neg (nlt_end p)]
   exact Evt.now _
  |cons y r ih=>
   intro p hp
   obtain⟨b,h1,h2⟩:=ih (p++[y]) (by rw[hp,snoc])
   have hnx:=next_len p y r (by rw[← hp];exact hl)
   by_cases hy:(y.size:Int)>400
   ·refine⟨true,by simp,Evt.step ?_⟩
    rw[hp]
    simp only[reply_wrong.l0,if_pos (lt_mid p y r),if_pos (Int.natCast_nonneg p.length),rdO,reply_wrong_1.f,Option.bind_some,decide_eq_true hy,if_true]
    exact(Evt.now _).val (by simp)
   ·refine⟨b,fun hb s hs=>?_,Evt.step ?_⟩
    ·rcases List.mem_cons.1 hs with rfl|hs
     ·omega
     ·exact h1 hb s hs
    ·rw[hp] at h2 ⊢
     simp only[reply_wrong.l0,if_pos (lt_mid p y r),if_pos (Int.natCast_nonneg p.length),rdO,reply_wrong_1.f,Option.bind_some,decide_eq_false hy,Bool.false_eq_true,if_false,hnx]
     exact h2
 obtain⟨b,h1,h2⟩:=loop v.f1 [] rfl
 obtain⟨w,h3,h4⟩:=word_ev v.f0
 unfold reply_wrong.f
 cases w
 ·refine⟨true,by simp,Evt.bind h4 ?_⟩
  simp only[Bool.false_eq_true,if_false]
  exact Evt.now _
 ·by_cases h8:(v.f1.length:Int)>8
  ·refine⟨true,by simp,Evt.bind h4 ?_⟩
   simp only[if_true,if_pos h8]
   exact Evt.now _
  ·refine⟨b,fun hb=>⟨h3 rfl,by omega,h1 hb⟩,Evt.bind h4 ?_⟩
   simp only[if_true,if_neg h8]
   exact h2
def tg (a:Int):Int:=if a=1 then 1 else if a=3 then 5 else if a=4 then 7 else if a=5 then 9 else if a=6 then 11 else if a=7 then 13 else if a=8 then 15 else if a=10 then 24 else -1
theorem tag_eq (a:Int):reply_tag.f a=some (tg a):=by
 unfold reply_tag.f tg
 repeat' first
 |rfl
 |split
/-- A reply that may be. -/
structure Ok (r:S27):Prop where
 id0:0≤r.f0
 id1:r.f0≤2147483647
 en:r.f2=true→r.f1=3∧r.f3=0∧r.f4.size=0∧r.f5.size=0∧r.f6.size≤3000∧r.f7.length≤24∧∀ v ∈ r.f7,v.f0.size≤16∧v.f1.length≤8∧∀ s ∈ v.f1,s.size≤400
 re:r.f2=false→tg r.f1>0∧0≤r.f3∧r.f3≤127∧r.f4.size≤3000∧r.f5.size≤200∧r.f7=[]∧r.f6.size≤100
/-- No longer than a machine holds. -/
structure Bd (r:S27):Prop where
 h4:r.f4.size≤140737488351232
 h5:r.f5.size≤140737488351232
 h6:r.f6.size≤140737488351232
 h7:r.f7.length≤140737488351232
 hy:∀ y ∈ r.f7,y.f1.length≤140737488351232
theorem Ok.bd {r:S27} (h:Ok r):Bd r:=by
 cases hb:r.f2
 ·obtain⟨_,_,_,a,b,c,d⟩:=h.re hb
  exact⟨by omega,by omega,by omega,by rw[c];simp,by rw[c];simp⟩
 ·obtain⟨_,_,a,b,c,d,e⟩:=h.en hb
  exact⟨by omega,by omega,by omega,by omega,fun y hy=>by have:=e y hy;omega⟩
def Gd (r:S27) (x:Int):Prop:=(x=0∨x=270)∧(x=0→Ok r)
theorem gd270 (r:S27):Gd r 270:=⟨.inr rfl,by simp⟩
theorem Chk.ite {r:S27} {c:Prop} [Decidable c] {f:Nat→Option Int} (h:c→∃ x,Gd r x∧Evt f x):∃ x,Gd r x∧Evt (fun k=>if c then f k else some 270) x:=by
 by_cases hc:c
 ·simp only[if_pos hc];exact h hc
 ·simp only[if_neg hc];exact⟨270,gd270 r,Evt.now _⟩
theorem Check_ev (r:S27) (hb:Bd r):∃ x,Gd r x∧Evt (fun k=>reply_Check.f k r.f0 r.f1 r.f2 r.f3 r.f4 r.f5 r.f6 r.f7) x:=by
 have loop:∀ (t p:List S46),r.f7=p++t→∃ x,(x=0∨x=270)∧(x=0→∀ v ∈ t,v.f0.size≤16∧v.f1.length≤8∧∀ s ∈ v.f1,s.size≤400)∧Evt (fun k=>reply_Check.l0 k (p.length:Int) r.f7) x:=by
  intro t
  induction t with
  |nil=>
   intro p hp
   refine⟨0,.inl rfl,by simp,Evt.step ?_⟩
   rw[hp]
   simp only[reply_Check.l0,if_neg (nlt_end p)]
   exact Evt.now _
  |cons y t ih=>
   intro p hp
   obtain⟨x,h0,h1,h2⟩:=ih (p++[y]) (by rw[hp,snoc])
   have hnx:=next_len p y t (by rw[← hp];exact hb.h7)
   obtain⟨b,h3,h4⟩:=wrong_ev y (hb.hy y (by rw[hp];simp))
   cases b
   ·refine⟨x,h0,fun hx v hv=>?_,Evt.step ?_⟩
    ·rcases List.mem_cons.1 hv with rfl|hv
     ·exact h3 rfl
     ·exact h1 hx v hv
    ·rw[hp] at h2 ⊢
     simp only[reply_Check.l0,if_pos (lt_mid p y t),if_pos (Int.natCast_nonneg p.length),rd46,hnx]
     refine Evt.bind h4 ?_
     simp only[Bool.false_eq_true,if_false]
     exact h2
   ·refine⟨270,.inr rfl,by simp,Evt.step ?_⟩
    rw[hp]
    simp only[reply_Check.l0,if_pos (lt_mid p y t),if_pos (Int.natCast_nonneg p.length),rd46,hnx]
    refine Evt.bind h4 ?_
    simp only[if_true]
    exact Evt.now _
 unfold reply_Check.f
 by_cases c0:r.f0≥0
 ·simp only[if_pos c0]
  by_cases c2:r.f2=true
  ·simp only[if_pos c2]
   refine Chk.ite fun c1=>Chk.ite fun c3=>Chk.ite fun c4=>?_
   have:=hb.h4
   have:=hb.h5
   simp only[if_pos (show r.f4.size+r.f5.size≤9223372036854775807 by omega)]
   refine Chk.ite fun c5=>Chk.ite fun c6=>Chk.ite fun c7=>?_
   obtain⟨x,h0,h1,h2⟩:=loop r.f7 [] rfl
   have hz:r.f4.size=0∧r.f5.size=0:=by
    have:=(PbA.toList_nil _).1 c5
    rw[← len_B,B_app,List.length_append,len_B,len_B] at this
    omega
   exact⟨x,⟨h0,fun hx=>⟨c0,c1,fun _=>⟨c3,c4,hz.1,hz.2,by omega,by omega,h1 hx⟩,fun hf=>(by rw[c2] at hf;cases hf)⟩⟩,h2⟩
  ·simp only[if_neg c2]
   have c2':r.f2=false:=by simpa using c2
   refine Chk.ite fun c1=>?_
   rw[tag_eq]
   simp only[Option.bind_some]
   refine Chk.ite fun c3=>Chk.ite fun c4=>Chk.ite fun c5=>Chk.ite fun c6=>Chk.ite fun c7=>Chk.ite fun c8=>?_
   have hn:r.f7=[]:=List.length_eq_zero_iff.1 (by omega)
   by_cases c9:r.f6.toList=([]:List UInt8)
   ·simp only[if_pos c9]
    have:=(PbA.toList_nil _).1 c9
    exact⟨0,⟨.inl rfl,fun _=>⟨c0,c1,fun hf=>(by rw[c2'] at hf;cases hf),fun _=>⟨c3,c4,c5,by omega,by omega,hn,by omega⟩⟩⟩,Evt.now _⟩
   ·simp only[if_neg c9]
    refine Chk.ite fun ca=>Chk.ite fun cb=>?_
    exact⟨0,⟨.inl rfl,fun _=>⟨c0,c1,fun hf=>(by rw[c2'] at hf;cases hf),fun _=>⟨c3,c4,c5,by omega,by omega,hn,by omega⟩⟩⟩,Evt.now _⟩
 ·simp only[if_neg c0]
  refine⟨270,gd270 r,?_⟩
  by_cases c2:r.f2=true
  ·simp only[if_pos c2];exact Evt.now _
  ·simp only[if_neg c2];exact Evt.now _
/-! ### the element of a reply -/
def sg (n:Int):ByteArray:=strOfNums (sgn (four n))
def tE (s:ByteArray):S57:=⟨0,false,4,s,[]⟩
def nE (m n:Int):S57:=⟨0,false,m,sg n,[]⟩
def gE (c n:Int) (l:List S57):S57:=⟨c,true,n,⟨#[]⟩,l⟩
def aE (v:S46):S57:=gE 0 16 [tE v.f0,gE 0 17 (v.f1.map tE)]
def xE (s:ByteArray):List S57:=if s.size=0 then[] else[⟨2,false,10,s,[]⟩]
def opE (r:S27):S57:=if r.f2=true then gE 1 4 [tE r.f6,gE 0 16 (r.f7.map aE)] else gE 1 (tg r.f1) ([nE 10 r.f3,tE r.f4,tE r.f5]++xE r.f6)
def el (r:S27):S57:=gE 0 16 [nE 2 r.f0,opE r]
theorem text_eq (s:ByteArray):reply_text.f s=some (0,false,4,s,[]):=by simp[reply_text.f,prims_Text.f]
theorem text2_eq (s:ByteArray):prims_Text.f 2 10 s=some (2,false,10,s,[],0):=by simp[prims_Text.f]
theorem group_eq (c n:Int) (l:List S57) (hc:0≤c∧c≤3) (hn:0≤n∧n≤30) (hl:l.length<2199023255552):reply_group.f c n l=some (c,true,n,⟨#[]⟩,l):=by
 unfold reply_group.f prims_Group.f Clone_92.f
 rw[if_neg (by omega),if_neg (by omega),if_neg (by omega),if_neg (by omega),if_pos hl]
 rfl
theorem number_ev (m n:Int) (hm:0≤m∧m≤30) (hn: -2147483648≤n∧n≤2147483647):Evt (fun k=>reply_number.f k m n) (0,false,m,sg n,[]):=by
 unfold reply_number.f prims_Int.f
 simp only[if_neg (show ¬ n< -2147483648 by omega),if_neg (show ¬ n>2147483647 by omega),if_neg (show ¬ (0:Int)<0 by omega),if_neg (show ¬ (0:Int)>3 by omega),if_neg (show ¬ m<0 by omega),if_neg (show ¬ m>30 by omega),wrap32_in n hn]
 exact⟨5,fun k hk=>by simp only[signed_f k n hk];rfl⟩
theorem entry_ev (r:S27) (h:Ok r) (hb:r.f2=true):Evt (fun k=>reply_entry.f k r.f0 r.f1 true r.f3 r.f4 r.f5 r.f6 r.f7) ((opE r).f0,(opE r).f1,(opE r).f2,(opE r).f3,(opE r).f4):=by
 obtain⟨_,_,_,_,_,h7,hy⟩:=h.en hb
 have ho:opE r=gE 1 4 [tE r.f6,gE 0 16 (r.f7.map aE)]:=by unfold opE;rw[if_pos hb]
 have loop:∀ (t p:List S46),r.f7=p++t→Evt (fun k=>reply_entry.l0 k (p.map aE) (p.length:Int) r.f6 r.f7) ((opE r).f0,(opE r).f1,(opE r).f2,(opE r).f3,(opE r).f4):=by
  intro t
  induction t with
  |nil=>
   intro p hp
   refine Evt.step ?_
   have hpe:p=r.f7:=by rw[hp];simp
   rw[hp] at h7
   simp only[reply_entry.l0]
   rw[hp]
   simp only[if_neg (nlt_end p),text_eq,Option.bind_some]
   rw[group_eq 0 16 (p.map aE) (by omega) (by omega) (by simp at h7 ⊢;omega)]
   simp only[Option.bind_some]
   rw[group_eq 1 4 _ (by omega) (by omega) (by simp)]
   rw[ho,← hpe]
   exact Evt.now _
  |cons y t ih=>
   intro p hp
   have hi:=ih (p++[y]) (by rw[hp,snoc])
   obtain⟨y0,y1,y2⟩:=hy y (by rw[hp];simp)
   have hnx:=next_len p y t (by rw[← hp];omega)
   have hpl:p.length≤24:=by rw[hp] at h7;simp at h7;omega
   have inner:∀ (u s:List ByteArray),y.f1=s++u→Evt (fun k=>reply_entry.l1 k (s.map tE) (s.length:Int) r.f6 r.f7 (p.map aE) (p.length:Int)) ((opE r).f0,(opE r).f1,(opE r).f2,(opE r).f3,(opE r).f4):=by
    intro u
    induction u with
    |nil=>
     intro s hs
     have hse:s=y.f1:=by rw[hs];simp
     refine Evt.step ?_
     rw[hp] at hi ⊢
     have he: ¬ (s.length:Int)<(y.f1.length:Int):=by rw[hs];simp
     simp only[reply_entry.l1,rd46,if_neg he,text_eq,Option.bind_some]
     rw[group_eq 0 17 (s.map tE) (by omega) (by omega) (by simp;rw[hse];omega)]
     simp only[Option.bind_some]
     rw[group_eq 0 16 _ (by omega) (by omega) (by simp)]
     simp only[Option.bind_some]
     refine Evt.ifp (by simp;omega) ?_
     simp only[Option.bind_some,hnx]
     rw[show(p.map aE++[⟨0,true,16,⟨#[]⟩,[⟨0,false,4,y.f0,[]⟩,⟨0,true,17,⟨#[]⟩,s.map tE⟩]⟩]:List S57)=(p++[y]).map aE by rw[hse];simp[aE,gE,tE]]
     exact hi
    |cons z u ih2=>
     intro s hs
     have hj:=ih2 (s++[z]) (by rw[hs,snoc])
     have hsl:s.length≤8:=by rw[hs] at y1;simp at y1;omega
     have hn2:=next_len s z u (by rw[← hs];omega)
     have hl:(s.length:Int)<(y.f1.length:Int):=by rw[hs];exact lt_mid s z u
     have hz:rdOf ByteArray.empty y.f1 (s.length:Int)=z:=by rw[hs];exact rdO s z u
     refine Evt.step ?_
     rw[hp] at hj ⊢
     simp only[reply_entry.l1,rd46,if_pos hl,if_pos (Int.natCast_nonneg s.length),hz,text_eq,Option.bind_some]
     refine Evt.ifp (by simp;omega) ?_
     simp only[Option.bind_some,hn2]
     rw[show(s.map tE++[⟨0,false,4,z,[]⟩]:List S57)=(s++[z]).map tE by simp[tE]]
     exact hj
   refine Evt.step ?_
   have hin:=inner y.f1 [] rfl
   rw[hp] at hin ⊢
   simp only[reply_entry.l0,if_pos (lt_mid p y t),if_pos (Int.natCast_nonneg p.length)]
   exact hin
 exact loop r.f7 [] rfl
theorem tg_le (a:Int):tg a≤24:=by
 unfold tg
 repeat' first
 |decide
 |split
theorem result_ev (r:S27) (h:Ok r) (hb:r.f2=false):Evt (fun k=>reply_result.f k r.f0 r.f1 false r.f3 r.f4 r.f5 r.f6 r.f7) ((opE r).f0,(opE r).f1,(opE r).f2,(opE r).f3,(opE r).f4):=by
 obtain⟨h1,h2,h3,_,_,_,_⟩:=h.re hb
 have ho:opE r=gE 1 (tg r.f1) ([nE 10 r.f3,tE r.f4,tE r.f5]++xE r.f6):=by unfold opE;rw[if_neg (by rw[hb];decide)]
 have ht:=tg_le r.f1
 unfold reply_result.f
 refine Evt.bind (number_ev 10 r.f3 (by omega) (by omega)) ?_
 simp only[text_eq,Option.bind_some,tag_eq]
 by_cases hz:r.f6.toList=([]:List UInt8)
 ·simp only[if_pos hz]
  have hx:xE r.f6=[]:=if_pos ((PbA.toList_nil _).1 hz)
  rw[group_eq 1 (tg r.f1) _ (by omega) (by omega) (by simp),ho,hx]
  exact Evt.now _
 ·simp only[if_neg hz,text2_eq,Option.bind_some]
  have hx:xE r.f6=[⟨2,false,10,r.f6,[]⟩]:=if_neg (fun e=>hz ((PbA.toList_nil _).2 e))
  refine Evt.ifp (by simp) ?_
  rw[group_eq 1 (tg r.f1) _ (by omega) (by omega) (by simp),ho,hx]
  exact Evt.now _
theorem W_leaf (c:Int) (m:Int) (s:ByteArray) (hs:s.size≤140737488351232):PbA.W ⟨c,false,m,s,[]⟩:=.mk _ hs (by simp) (by simp)
theorem W_group (c n:Int) (l:List S57) (hl:l.length≤140737488351232) (h:∀ y ∈ l,PbA.W y):PbA.W (gE c n l):=.mk _ (by show(0:Nat)≤140737488351232;omega) hl h
theorem sg_size (n:Int):(sg n).size≤4:=by
 unfold sg
 rw[son,size_A8,List.length_map]
 exact(sgn_in (four n)).2.1
theorem san_leaf (n:Nat) (c m:Int) (s:ByteArray) (hc:0≤c∧c≤3) (hm:0≤m∧m≤30):PbA.san (n+1) ⟨c,false,m,s,[]⟩=true:=by
 unfold PbA.san PbA.okL
 rw[decide_eq_true hc.1,decide_eq_true hc.2,decide_eq_true hm.1,decide_eq_true hm.2]
 rfl
theorem san_group (n:Nat) (c m:Int) (l:List S57) (hc:0≤c∧c≤3) (hm:0≤m∧m≤30) (h:∀ y ∈ l,PbA.san n y=true):PbA.san (n+1) (gE c m l)=true:=by
 have hl:(gE c m l).f4.all (PbA.san n)=true:=List.all_eq_true.2 h
 unfold PbA.san PbA.okL
 rw[hl,decide_eq_true (show 0≤(gE c m l).f0 from hc.1),decide_eq_true (show(gE c m l).f0≤3 from hc.2),decide_eq_true (show 0≤(gE c m l).f2 from hm.1),decide_eq_true (show(gE c m l).f2≤30 from hm.2)]
 rfl
theorem el_fine (r:S27) (h:Ok r):PbA.W (el r)∧PbA.san 12 (el r)=true:=by
 have hid:PbA.W (nE 2 r.f0)∧PbA.san 11 (nE 2 r.f0)=true:=⟨W_leaf _ _ _ (by have:=sg_size r.f0;omega),san_leaf 10 _ _ _ (by omega) (by omega)⟩
 have hop:PbA.W (opE r)∧PbA.san 11 (opE r)=true:=by
  cases hb:r.f2
  ·obtain⟨h1,h2,h3,h4,h5,_,h6⟩:=h.re hb
   have ho:opE r=gE 1 (tg r.f1) ([nE 10 r.f3,tE r.f4,tE r.f5]++xE r.f6):=by unfold opE;rw[if_neg (by rw[hb];decide)]
   rw[ho]
   have hx:(xE r.f6).length≤1∧∀ y ∈ xE r.f6,PbA.W y∧PbA.san 10 y=true:=by
    unfold xE
    split
    ·simp
    ·refine⟨by simp,fun y hy=>?_⟩
     rw[List.mem_singleton.1 hy]
     exact⟨W_leaf _ _ _ (by omega),san_leaf 9 _ _ _ (by omega) (by omega)⟩
   have hk:∀ y ∈ [nE 10 r.f3,tE r.f4,tE r.f5]++xE r.f6,PbA.W y∧PbA.san 10 y=true:=by
    intro y hy
    rcases List.mem_append.1 hy with hy|hy
    ·simp only[List.mem_cons,List.not_mem_nil,or_false] at hy
     rcases hy with rfl|rfl|rfl
     ·exact⟨W_leaf _ _ _ (by have:=sg_size r.f3;omega),san_leaf 9 _ _ _ (by omega) (by omega)⟩
     ·exact⟨W_leaf _ _ _ (by omega),san_leaf 9 _ _ _ (by omega) (by omega)⟩
     ·exact⟨W_leaf _ _ _ (by omega),san_leaf 9 _ _ _ (by omega) (by omega)⟩
    ·exact hx.2 y hy
   have ht:=tg_le r.f1
   exact⟨W_group _ _ _ (by simp;omega) (fun y hy=>(hk y hy).1),san_group 10 _ _ _ (by omega) (by omega) (fun y hy=>(hk y hy).2)⟩
  ·obtain⟨_,_,_,_,h6,h7,hy⟩:=h.en hb
   have ho:opE r=gE 1 4 [tE r.f6,gE 0 16 (r.f7.map aE)]:=by unfold opE;rw[if_pos hb]
   rw[ho]
   have ha:∀ y ∈ r.f7.map aE,PbA.W y∧PbA.san 9 y=true:=by
    intro y hy2
    obtain⟨v,hv,rfl⟩:=List.mem_map.1 hy2
    obtain⟨v0,v1,v2⟩:=hy v hv
    have hs:∀ y ∈ v.f1.map tE,PbA.W y∧PbA.san 7 y=true:=by
     intro y hy3
     obtain⟨s,hs,rfl⟩:=List.mem_map.1 hy3
     exact⟨W_leaf _ _ _ (by have:=v2 s hs;omega),san_leaf 6 _ _ _ (by omega) (by omega)⟩
    have hk:∀ y ∈ [tE v.f0,gE 0 17 (v.f1.map tE)],PbA.W y∧PbA.san 8 y=true:=by
     intro y hy
     simp only[List.mem_cons,List.not_mem_nil,or_false] at hy
     rcases hy with rfl|rfl
     ·exact⟨W_leaf _ _ _ (by omega),san_leaf 7 _ _ _ (by omega) (by omega)⟩
     ·exact⟨W_group _ _ _ (by simp;omega) (fun y hy=>(hs y hy).1),san_group 7 _ _ _ (by omega) (by omega) (fun y hy=>(hs y hy).2)⟩
    exact⟨W_group _ _ _ (by simp) (fun y hy=>(hk y hy).1),san_group 8 _ _ _ (by omega) (by omega) (fun y hy=>(hk y hy).2)⟩
   have hk:∀ y ∈ [tE r.f6,gE 0 16 (r.f7.map aE)],PbA.W y∧PbA.san 10 y=true:=by
    intro y hy
    simp only[List.mem_cons,List.not_mem_nil,or_false] at hy
    rcases hy with rfl|rfl
    ·exact⟨W_leaf _ _ _ (by omega),san_leaf 9 _ _ _ (by omega) (by omega)⟩
    ·exact⟨W_group _ _ _ (by simp;omega) (fun y hy=>(ha y hy).1),san_group 9 _ _ _ (by omega) (by omega) (fun y hy=>(ha y hy).2)⟩
   exact⟨W_group _ _ _ (by simp) (fun y hy=>(hk y hy).1),san_group 10 _ _ _ (by omega) (by omega) (fun y hy=>(hk y hy).2)⟩
 have hk:∀ y ∈ [nE 2 r.f0,opE r],PbA.W y∧PbA.san 11 y=true:=by
  intro y hy
  simp only[List.mem_cons,List.not_mem_nil,or_false] at hy
  rcases hy with rfl|rfl
  ·exact hid
  ·exact hop
 exact⟨W_group _ _ _ (by simp) (fun y hy=>(hk y hy).1),san_group 11 _ _ _ (by omega) (by omega) (fun y hy=>(hk y hy).2)⟩
theorem enc_one (e:S57):PbA.enc [e]=if PbA.chk e=0 then(A8 (PbA.lay 12 e),0) else(⟨#[]⟩,PbA.chk e):=by
 unfold PbA.enc PbA.fb PbA.fb
 by_cases hc:PbA.chk e=0
 ·have:=((PbA.chk_zero e).1 hc).2
  simp[hc,this]
 ·simp[hc]
/-- What laying tells: the bytes, if they are not too many. -/
theorem enc_el (r:S27) (h:Ok r):PbA.enc [el r]=if (PbA.lay 12 (el r)).length≤4000 then(A8 (PbA.lay 12 (el r)),0) else(⟨#[]⟩,3):=by
 have hs:=(el_fine r h).2
 have hd: ¬ PbA.dpt 12 (el r)>12:=by
  have:=(PbA.dpt_dle 12 (el r)).2 (PbA.san_dle 12 _ hs)
  omega
 rw[enc_one]
 unfold PbA.chk
 rw[if_neg hd,if_pos hs]
 split <;>simp
theorem laid_ev (r:S27) (h:Ok r):Evt (fun k=>reply_laid.f k r.f0 r.f1 r.f2 r.f3 r.f4 r.f5 r.f6 r.f7) (PbA.enc [el r]):=by
 have hE:Evt (fun k=>ber_Encode.f k [el r]) (PbA.enc [el r]):=PbA.Encode_ev [el r] (fun y hy=>by rw[List.mem_singleton.1 hy];exact(el_fine r h).1) (by simp)
 have i0:=h.id0
 have i1:=h.id1
 unfold reply_laid.f
 cases hb:r.f2
 ·simp only[Bool.false_eq_true,if_false]
  refine Evt.bind (number_ev 2 r.f0 (by omega) (by omega)) ?_
  refine Evt.bind (result_ev r h hb) ?_
  rw[group_eq 0 16 _ (by omega) (by omega) (by simp)]
  simp only[Option.bind_some,PbA.eta]
  change Evt (fun k=>(ber_Encode.f k [el r]).bind fun b=>some (b.1,b.2)) _
  exact Evt.bind hE (Evt.now _)
 ·simp only[if_true]
  refine Evt.bind (number_ev 2 r.f0 (by omega) (by omega)) ?_
  refine Evt.bind (entry_ev r h hb) ?_
  rw[group_eq 0 16 _ (by omega) (by omega) (by simp)]
  simp only[Option.bind_some,PbA.eta]
  change Evt (fun k=>(ber_Encode.f k [el r]).bind fun b=>some (b.1,b.2)) _
  exact Evt.bind hE (Evt.now _)
end Go.Proofs.Ytdjkemhmhkpmkaa.PrB
