import Derived.Test.YtdjkemhmhkpmkaaPrB
import Derived.Test.YtdjkemhmhkpmkaaGM1
import Derived.Test.YtdjkemhmhkpmkaaGM1
import Derived.Test.YtdjkemhmhkpmkaaGM1
import Derived.Test.YtdjkemhmhkpmkaaGM1
/- Plain laws of replies: the document's answers: what may be, and the bytes. -/
namespace Go.Proofs.Ytdjkemhmhkpmkaa.PrE
open Go Go.RowKit Go.Proofs.Ytdjkemhmhkpmkaa.GA Go.Proofs.Ytdjkemhmhkpmkaa.OA Go.Proofs.Ytdjkemhmhkpmkaa.PuE Go.Proofs.Ytdjkemhmhkpmkaa.PrI Go.Proofs.Ytdjkemhmhkpmkaa.PrS Go.Proofs.Ytdjkemhmhkpmkaa.PrB Go.Proofs.YtdjkemhmhkpmkaaW.PrintWords Go.Proofs.YtdjkemhmhkpmkaaW.PrintLast Go.Proofs.YtdjkemhmhkpmkaaW.PrintMore
set_option linter.unusedVariables false
set_option linter.unusedSimpArgs false
/-! ### words -/
theorem word_same (s:ByteArray):∀ (k:Nat) (i:Int),1≤i→i≤100→(s.size:Int)≤16→dn_Word.l0 k i s=toponymref18_Word.l0 k i s
 |0,_,_,_,_=>rfl
 |k+1,i,h1,h2,hs=>by
  unfold dn_Word.l0 toponymref18_Word.l0
  by_cases h:i<(s.size:Int)
  ·have hw:wrap64 (i+1)=i+1:=w64 _ (by omega)
   have ih:=word_same s k (i+1) (by omega) (by omega) hs
   have hi1:0≤i:=by omega
   simp only[if_pos h,if_pos hi1,hw,ih]
   unfold dn_small.f
   have hi0: ¬ i=0:=by omega
   generalize toponymref18_Word.l0 k (i+1) s=X
   generalize bt s i=b
   by_cases c1:b≥97
   ·by_cases c2:b≤122
    ·have c3:b≥48:=by omega
     have c4: ¬ b≤57:=by omega
     simp[c1,c2,c3,c4]
    ·have c3:b≥48:=by omega
     have c4: ¬ b≤57:=by omega
     have c5: ¬ b<48:=by omega
     have c6:b>57:=by omega
     have c7: ¬ b=45:=by omega
     simp[c1,c2,c3,c4,c5,c6,c7,hi0]
   ·by_cases c3:b≥48
    ·by_cases c4:b≤57
     ·have c5: ¬ b<48:=by omega
      have c6: ¬ b>57:=by omega
      simp[c1,c3,c4,c5,c6,hi0]
     ·have c5: ¬ b<48:=by omega
      have c6:b>57:=by omega
      have c7: ¬ b=45:=by omega
      simp[c1,c3,c4,c5,c6,c7,hi0]
    ·have c5:b<48:=by omega
     by_cases c7:b=45
     ·subst c7;simp[hi0]
     ·simp[c1,c3,c5,c7,hi0]
  ·rw[if_neg h,if_neg h]
/-- Is it a word? -/
def wd (s:ByteArray):Bool:=(dn_Word.f 20 s).getD false
theorem wd_own (s:ByteArray):dn_Word.f 20 s=some (wd s):=by
 obtain⟨b,_,h⟩:=word_ev s
 have:∃ b,dn_Word.f 20 s=some b:=by
  unfold dn_Word.f
  by_cases h0:s.toList=([]:List UInt8)
  ·exact⟨false,if_pos h0⟩
  ·rw[if_neg h0]
   by_cases h1:(s.size:Int)>16
   ·exact⟨false,if_pos h1⟩
   ·have hz:=(not_congr (PbA.toList_nil s)).1 h0
    rw[if_neg h1,if_pos (by omega)]
    obtain⟨t,ht⟩:=small_ev (bt s 0)
    obtain⟨b,hb⟩:=word_l0 s (by omega) 20 1 (by omega) (by omega) (by decide)
    rw[ht,hb]
    simp only[Option.bind_some]
    split
    ·exact⟨b,rfl⟩
    ·exact⟨false,rfl⟩
 obtain⟨c,hc⟩:=this
 unfold wd
 rw[hc]
 rfl
theorem wd_ev (s:ByteArray):Evt (fun k=>dn_Word.f k s) (wd s):=Evt.mono_ (fun k=>dn_Word.mono s k) (wd_own s)
theorem wd_ref (s:ByteArray):Evt (fun k=>toponymref18_Word.f k s) (wd s):=by
 have key:toponymref18_Word.f 21 s=some (wd s):=by
  rw[← wd_own s]
  unfold toponymref18_Word.f dn_Word.f
  by_cases h0:s.toList=([]:List UInt8)
  ·have hz:=(PbA.toList_nil s).1 h0
   rw[if_pos h0,if_pos (by omega)]
  ·have hz:=(not_congr (PbA.toList_nil s)).1 h0
   rw[if_neg h0,if_neg (by omega)]
   by_cases h1:(s.size:Int)>16
   ·rw[if_pos h1,if_pos h1]
   ·have hp:(0:Int)<(s.size:Int):=by omega
    have hw:wrap64 ((0:Int)+1)=1:=by rw[w64 _ (by omega)];rfl
    rw[if_neg h1,if_neg h1,if_pos hp,word_same s 20 1 (by omega) (by omega) (by omega)]
    generalize hX:toponymref18_Word.l0 20 1 s=X
    unfold toponymref18_Word.l0
    simp only[if_pos hp,if_pos (show(0:Int)≤0 by omega),hw,hX]
    unfold dn_small.f
    generalize bt s 0=b
    by_cases c1:b≥97
    ·have c3:b≥48:=by omega
     have c4: ¬ b≤57:=by omega
     by_cases c2:b≤122
     ·simp[c1,c2,c3,c4]
     ·simp[c1,c2,c3,c4]
    ·by_cases c3:b≥48
     ·by_cases c4:b≤57
      ·simp[c1,c3,c4]
      ·simp[c1,c3,c4]
     ·simp[c1,c3]
 exact Evt.mono_ (fun k=>toponymref18_Word.mono s k) key
/-! ### what may be -/
def av (v:S46):Bool:=wd v.f0 && (decide (v.f1.length≤8) && v.f1.all fun s=>decide (s.size≤400))
theorem wrong_eq (v:S46) (hl:v.f1.length≤140737488351232):Evt (fun k=>reply_wrong.f k v.f0 v.f1) (!av v):=by
 have loop:∀ (r p:List ByteArray),v.f1=p++r→Evt (fun k=>reply_wrong.l0 k (p.length:Int) v.f1) (!(r.all fun s=>decide (s.size≤400))):=by
  intro r
  induction r with
  |nil=>
   intro p hp
   refine Evt.step ?_
   rw[hp]
   simp only[reply_wrong.l0,if_neg (nlt_end p)]
   exact Evt.now _
  |cons y r ih=>
   intro p hp
   have hi:=ih (p++[y]) (by rw[hp,snoc])
   have hnx:=next_len p y r (by rw[← hp];exact hl)
   refine Evt.step ?_
   by_cases hy:(y.size:Int)>400
   ·rw[hp]
    simp only[reply_wrong.l0,if_pos (lt_mid p y r),if_pos (Int.natCast_nonneg p.length),rdO,reply_wrong_1.f,Option.bind_some,decide_eq_true hy,if_true]
    refine(Evt.now _).val ?_
    have: ¬ y.size≤400:=by omega
    simp[this]
   ·rw[hp] at hi ⊢
    simp only[reply_wrong.l0,if_pos (lt_mid p y r),if_pos (Int.natCast_nonneg p.length),rdO,reply_wrong_1.f,Option.bind_some,decide_eq_false hy,Bool.false_eq_true,if_false,hnx]
    refine hi.val ?_
    have:y.size≤400:=by omega
    simp[this]
 have h2:=loop v.f1 [] rfl
 unfold reply_wrong.f
 refine Evt.bind (wd_ev v.f0) ?_
 unfold av
 cases wd v.f0
 ·simp only[Bool.false_eq_true,if_false]
  exact(Evt.now _).val rfl
 ·by_cases h8:(v.f1.length:Int)>8
  ·simp only[if_true,if_pos h8]
   refine(Evt.now _).val ?_
   have: ¬ v.f1.length≤8:=by omega
   simp[this]
  ·simp only[if_true,if_neg h8]
   refine h2.val ?_
   have:v.f1.length≤8:=by omega
   simp[this]
theorem own_l0 (l:List S46) (hb:l.length≤140737488351232) (hy:∀ y ∈ l,y.f1.length≤140737488351232):Evt (fun k=>reply_Check.l0 k 0 l) (if l.all av=true then 0 else 270):=by
 have loop:∀ (t p:List S46),l=p++t→Evt (fun k=>reply_Check.l0 k (p.length:Int) l) (if t.all av=true then 0 else 270):=by
  intro t
  induction t with
  |nil=>
   intro p hp
   refine Evt.step ?_
   rw[hp]
   simp only[reply_Check.l0,if_neg (nlt_end p)]
   exact Evt.now _
  |cons y t ih=>
   intro p hp
   have hi:=ih (p++[y]) (by rw[hp,snoc])
   have hnx:=next_len p y t (by rw[← hp];exact hb)
   refine Evt.step ?_
   rw[hp] at hi ⊢
   simp only[reply_Check.l0,if_pos (lt_mid p y t),if_pos (Int.natCast_nonneg p.length),rd46,hnx]
   refine Evt.bind (wrong_eq y (hy y (by rw[hp];simp))) ?_
   cases ha:av y
   ·simp only[Bool.not_false,if_true]
    exact(Evt.now _).val (by simp[ha])
   ·simp only[Bool.not_true,Bool.false_eq_true,if_false]
    exact hi.val (by simp[ha])
 exact loop l [] rfl
theorem ref_attrs (l:List S46) (hy:∀ y ∈ l,y.f1.length≤140737488351232):Evt (fun k=>toponymref27_attrs.f k l) (decide (l.length≤24) && l.all av):=by
 unfold toponymref27_attrs.f
 by_cases h24:(l.length:Int)>24
 ·simp only[if_pos h24]
  refine(Evt.now _).val ?_
  have: ¬ l.length≤24:=by omega
  simp[this]
 ·simp only[if_neg h24]
  have loop:∀ (t p:List S46),l=p++t→Evt (fun k=>toponymref27_attrs.l0 k (p.length:Int) l) (t.all av):=by
   intro t
   induction t with
   |nil=>
    intro p hp
    refine Evt.step ?_
    rw[hp]
    simp only[toponymref27_attrs.l0,if_neg (nlt_end p)]
    exact Evt.now _
   |cons y t ih=>
    intro p hp
    have hi:=ih (p++[y]) (by rw[hp,snoc])
    have hyl:=hy y (by rw[hp];simp)
    have hnx:=next_len p y t (by rw[← hp];omega)
    have inner:∀ (u s:List ByteArray),y.f1=s++u→Evt (fun k=>toponymref27_attrs.l1 k (s.length:Int) l (p.length:Int)) ((u.all fun s=>decide (s.size≤400)) && t.all av):=by
     intro u
     induction u with
     |nil=>
      intro s hs
      have he: ¬ (s.length:Int)<(y.f1.length:Int):=by rw[hs];simp
      refine Evt.step ?_
      rw[hp] at hi ⊢
      simp only[toponymref27_attrs.l1,if_pos (Int.natCast_nonneg p.length),if_pos (lt_mid p y t),rd46,if_neg he,hnx]
      exact hi.val (by simp)
     |cons z u ih2=>
      intro s hs
      have hj:=ih2 (s++[z]) (by rw[hs,snoc])
      have hn2:=next_len s z u (by rw[← hs];exact hyl)
      have hl:(s.length:Int)<(y.f1.length:Int):=by rw[hs];exact lt_mid s z u
      have hz:rdOf ByteArray.empty y.f1 (s.length:Int)=z:=by rw[hs];exact rdO s z u
      refine Evt.step ?_
      rw[hp] at hj ⊢
      by_cases hq:(z.size:Int)>400
      ·simp only[toponymref27_attrs.l1,if_pos (Int.natCast_nonneg p.length),if_pos (lt_mid p y t),rd46,if_pos hl,if_pos (Int.natCast_nonneg s.length),hz,if_pos hq]
       refine(Evt.now _).val ?_
       have: ¬ z.size≤400:=by omega
       simp[this]
      ·simp only[toponymref27_attrs.l1,if_pos (Int.natCast_nonneg p.length),if_pos (lt_mid p y t),rd46,if_pos hl,if_pos (Int.natCast_nonneg s.length),hz,if_neg hq,hn2]
       refine hj.val ?_
       have:z.size≤400:=by omega
       simp[this]
    have hin:=inner y.f1 [] rfl
    refine Evt.step ?_
    rw[hp] at hin ⊢
    simp only[toponymref27_attrs.l0,if_pos (lt_mid p y t),if_pos (Int.natCast_nonneg p.length),rd46]
    refine Evt.bind (wd_ref y.f0) ?_
    cases hw:wd y.f0
    ·simp only[Bool.false_eq_true,if_false]
     exact(Evt.now _).val (by simp[av,hw])
    ·simp only[if_true]
     by_cases h8:(y.f1.length:Int)>8
     ·simp only[if_pos h8]
      refine(Evt.now _).val ?_
      have: ¬ y.f1.length≤8:=by omega
      simp[av,hw,this]
     ·simp only[if_neg h8]
      refine hin.val ?_
      have:y.f1.length≤8:=by omega
      simp[av,hw,this]
  refine(loop l [] rfl).val ?_
  have:l.length≤24:=by omega
  simp[this]
theorem rtag_eq (a:Int):toponymref27_tag.f a=some (if tg a>0 then tg a else 0):=by
 unfold toponymref27_tag.f
 by_cases h0:a<0
 ·rw[if_pos h0]
  have:tg a= -1:=by
   unfold tg
   rw[if_neg (by omega),if_neg (by omega),if_neg (by omega),if_neg (by omega),if_neg (by omega),if_neg (by omega),if_neg (by omega),if_neg (by omega)]
  rw[this];rfl
 ·rw[if_neg h0]
  by_cases h1:a>10
  ·rw[if_pos h1]
   have:tg a= -1:=by
    unfold tg
    rw[if_neg (by omega),if_neg (by omega),if_neg (by omega),if_neg (by omega),if_neg (by omega),if_neg (by omega),if_neg (by omega),if_neg (by omega)]
   rw[this];rfl
  ·rw[if_neg h1,if_pos (by omega),if_pos (by omega)]
   have key:∀ x ∈ [(0:Int),1,2,3,4,5,6,7,8,9,10],rd ([0,1,0,5,7,9,11,13,15,0,24]:List Int) x=if tg x>0 then tg x else 0:=by decide
   rw[key a (by simp only[List.mem_cons,List.not_mem_nil,or_false];omega)]
/-- The program and the document say the same. -/
theorem Check_both (r:S27) (hb:Bd r):∃ x,Evt (fun k=>reply_Check.f k r.f0 r.f1 r.f2 r.f3 r.f4 r.f5 r.f6 r.f7) x∧Evt (fun k=>toponymref27_Check.f k r.f0 r.f1 r.f2 r.f3 r.f4 r.f5 r.f6 r.f7) x:=by
 have hA:=ref_attrs r.f7 hb.hy
 have hO:=own_l0 r.f7 hb.h7 hb.hy
 have b4:=hb.h4
 have b5:=hb.h5
 have e4:=PbA.toList_nil r.f4
 have e5:=PbA.toList_nil r.f5
 have e6:=PbA.toList_nil r.f6
 have e45:(r.f4++r.f5).toList=([]:List UInt8)↔r.f4.size=0∧r.f5.size=0:=by
  rw[PbA.toList_nil,← len_B,B_app,List.length_append,len_B,len_B]
  omega
 unfold reply_Check.f toponymref27_Check.f
 simp only[tag_eq,rtag_eq,Option.bind_some]
 by_cases c0:r.f0≥0
 ·have c0': ¬ r.f0<0:=by omega
  simp only[if_pos c0,if_neg c0']
  by_cases c1:r.f0≤2147483647
  ·have c1': ¬ r.f0>2147483647:=by omega
   simp only[if_pos c1,if_neg c1']
   by_cases c2:r.f2=true
   ·simp only[if_pos c2]
    by_cases c3:r.f1=3
    ·simp only[if_pos c3]
     by_cases c4:r.f3=0
     ·simp only[if_pos c4,if_pos (show r.f4.size+r.f5.size≤9223372036854775807 by omega)]
      by_cases c5:r.f4.size=0
      ·by_cases c6:r.f5.size=0
       ·simp only[if_pos (e45.2 ⟨c5,c6⟩),if_pos (e4.2 c5),if_pos (e5.2 c6)]
        by_cases c7:(r.f6.size:Int)≤3000
        ·simp only[if_pos c7]
         by_cases c8:(r.f7.length:Int)≤24
         ·simp only[if_pos c8]
          have c8':r.f7.length≤24:=by omega
          refine⟨_,hO,Evt.bind hA ?_⟩
          cases hv:r.f7.all av
          ·simp only[Bool.and_false,Bool.false_eq_true,if_false];exact Evt.now _
          ·simp only[decide_eq_true c8',Bool.and_true,if_true];exact Evt.now _
         ·simp only[if_neg c8]
          have c8': ¬ r.f7.length≤24:=by omega
          refine⟨270,Evt.now _,Evt.bind hA ?_⟩
          simp only[decide_eq_false c8',Bool.false_and,Bool.false_eq_true,if_false];exact Evt.now _
        ·simp only[if_neg c7];exact⟨270,Evt.now _,Evt.now _⟩
       ·simp only[if_neg (fun h=>c6 (e45.1 h).2),if_pos (e4.2 c5),if_neg (fun h=>c6 (e5.1 h))];exact⟨270,Evt.now _,Evt.now _⟩
      ·simp only[if_neg (fun h=>c5 (e45.1 h).1),if_neg (fun h=>c5 (e4.1 h))];exact⟨270,Evt.now _,Evt.now _⟩
     ·simp only[if_neg c4];exact⟨270,Evt.now _,Evt.now _⟩
    ·simp only[if_neg c3];exact⟨270,Evt.now _,Evt.now _⟩
   ·simp only[if_neg c2]
    by_cases c3:tg r.f1>0
    ·have c3': ¬ tg r.f1=0:=by omega
     simp only[if_pos c3,if_neg c3']
     by_cases c4:r.f3≥0
     ·simp only[if_pos c4]
      by_cases c5:r.f3≤127
      ·simp only[if_pos c5,if_pos (show r.f3<128 by omega)]
       by_cases c6:(r.f4.size:Int)≤3000
       ·simp only[if_pos c6]
        by_cases c7:(r.f5.size:Int)≤200
        ·simp only[if_pos c7]
         by_cases c9:r.f6.toList=([]:List UInt8)
         ·simp only[if_pos c9]
          by_cases c8:(r.f7.length:Int)=0
          ·simp only[if_pos c8];exact⟨0,Evt.now _,Evt.now _⟩
          ·simp only[if_neg c8];exact⟨270,Evt.now _,Evt.now _⟩
         ·simp only[if_neg c9]
          by_cases ca:r.f1=10
          ·simp only[if_pos ca]
           by_cases cb:(r.f6.size:Int)≤100
           ·simp only[if_pos cb]
            by_cases c8:(r.f7.length:Int)=0
            ·simp only[if_pos c8];exact⟨0,Evt.now _,Evt.now _⟩
            ·simp only[if_neg c8];exact⟨270,Evt.now _,Evt.now _⟩
           ·simp only[if_neg cb,ite_self];exact⟨270,Evt.now _,Evt.now _⟩
          ·simp only[if_neg ca,ite_self];exact⟨270,Evt.now _,Evt.now _⟩
        ·simp only[if_neg c7,ite_self];exact⟨270,Evt.now _,Evt.now _⟩
       ·simp only[if_neg c6,ite_self];exact⟨270,Evt.now _,Evt.now _⟩
      ·simp only[if_neg c5,if_neg (show ¬ r.f3<128 by omega),ite_self];exact⟨270,Evt.now _,Evt.now _⟩
     ·simp only[if_neg c4,ite_self];exact⟨270,Evt.now _,Evt.now _⟩
    ·simp only[if_neg c3,if_true,ite_self];exact⟨270,Evt.now _,Evt.now _⟩
  ·have c1':r.f0>2147483647:=by omega
   simp only[if_neg c1,if_pos c1',ite_self]
   exact⟨270,Evt.now _,Evt.now _⟩
 ·have c0':r.f0<0:=by omega
  simp only[if_neg c0,if_pos c0',ite_self]
  exact⟨270,Evt.now _,Evt.now _⟩
/-! ### the element, the bytes -/
end Go.Proofs.Ytdjkemhmhkpmkaa.PrE
