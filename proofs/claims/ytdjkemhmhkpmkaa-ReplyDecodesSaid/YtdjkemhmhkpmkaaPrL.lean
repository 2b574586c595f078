import Derived.Test.YtdjkemhmhkpmkaaPrJ
import Derived.Test.YtdjkemhmhkpmkaaGM2
import Derived.Test.YtdjkemhmhkpmkaaGM1
import Derived.Test.YtdjkemhmhkpmkaaGM2
import Derived.Test.YtdjkemhmhkpmkaaGM1
/- Plain laws of whole numbers' contents: read as the document says. -/
namespace Go.Proofs.Ytdjkemhmhkpmkaa.PrL
open Go Go.RowKit Go.Proofs.Ytdjkemhmhkpmkaa.GA Go.Proofs.Ytdjkemhmhkpmkaa.OA Go.Proofs.Ytdjkemhmhkpmkaa.PuE Go.Proofs.Ytdjkemhmhkpmkaa.PrI Go.Proofs.Ytdjkemhmhkpmkaa.PrJ Go.Proofs.YtdjkemhmhkpmkaaW.PrintWords Go.Proofs.YtdjkemhmhkpmkaaW.PrintLast Go.Proofs.YtdjkemhmhkpmkaaW.PrintMore
set_option linter.unusedVariables false
set_option linter.unusedSimpArgs false
theorem or_low (y b:Int) (hy0: -2147483648≤y) (hy1:y≤2147483647) (hm:y % 256=0) (hb0:0≤b) (hb1:b≤255):Go.bits .or .i32 y b=wrap32 (y+b):=by
 unfold Go.bits
 rw[IntWalk.i32_left]
 have hb:(BitVec.ofInt IntKind.i32.bits b).toNat=b.toNat:=by
  show(BitVec.ofInt 32 b).toNat=_
  rw[BitVec.toNat_ofInt]
  have:b % ((2 ^ 32:Nat):Int)=b:=by omega
  rw[this]
 have hy:(BitVec.ofInt IntKind.i32.bits y).toNat=2 ^ 8*((y % 4294967296) / 256).toNat:=by
  show(BitVec.ofInt 32 y).toNat=_
  rw[BitVec.toNat_ofInt]
  have:((2 ^ 32:Nat):Int)=4294967296:=by decide
  rw[this]
  omega
 have ho:(BitVec.ofInt IntKind.i32.bits y ||| BitVec.ofInt IntKind.i32.bits b).toNat=2 ^ 8*((y % 4294967296) / 256).toNat+b.toNat:=by
  rw[BitVec.toNat_or,hy,hb]
  exact(Nat.two_pow_add_eq_or_of_lt (by omega) _).symm
 show wrap32 (((BitVec.ofInt IntKind.i32.bits y ||| BitVec.ofInt IntKind.i32.bits b).toNat:Nat):Int)=_
 rw[ho]
 unfold wrap32
 omega
theorem p_step (s:ByteArray) (k:Nat) (x i j:Int) (hj:i+1=j) (h:i<(s.size:Int)) (h0:0≤i) (hi:i≤5) (hx0: -8388608≤x) (hx1:x≤8388607):
  prims_AsInt.l0 (k+1) x i s=prims_AsInt.l0 k (x*256+bt s i) j s:=by
 subst hj
 have hr:=bt_range s i
 conv=>lhs;unfold prims_AsInt.l0
 rw[if_pos h,if_pos h0,IntWalk.wrap32_in (x*256) (by omega),IntWalk.wrap32_in (bt s i) (by omega),or_low (x*256) (bt s i) (by omega) (by omega) (by omega) hr.1 hr.2,IntWalk.wrap32_in _ (by omega),IntWalk.wrap64_in (i+1) (by omega)]
theorem p_end (s:ByteArray) (k:Nat) (x i:Int) (h: ¬ i<(s.size:Int)) (hk:5≤k) (hx0: -2147483648≤x) (hx1:x≤2147483647):
  prims_AsInt.l0 (k+1) x i s=if (strOfNums (sgn (four x))).toList=s.toList then some (x,0) else some (0,160):=by
 unfold prims_AsInt.l0
 rw[if_neg h,signed_f k x hk,IntWalk.wrap64_in x (by omega)]
 rfl
theorem r_step (s:ByteArray) (k:Nat) (n w i j:Int) (hj:i+1=j) (h:i<(s.size:Int)) (h0:0≤i) (hi:i≤5) (hx0:0≤n) (hx1:n≤4294967296) (hw0:0≤w) (hw1:w≤4294967296):
  toponymref16_AsInt.l0 (k+1) n w i s=toponymref16_AsInt.l0 k (256*n+bt s i) (256*w) j s:=by
 subst hj
 have hr:=bt_range s i
 conv=>lhs;unfold toponymref16_AsInt.l0
 rw[if_pos h,if_pos h0,IntWalk.wrap64_in (256*n) (by omega),IntWalk.wrap64_in (bt s i) (by omega),IntWalk.wrap64_in (256*n+bt s i) (by omega),IntWalk.wrap64_in (256*w) (by omega),IntWalk.wrap64_in (i+1) (by omega)]
theorem r_end (s:ByteArray) (k:Nat) (n w i v:Int) (h: ¬ i<(s.size:Int)) (hs:0<(s.size:Int)) (hk:20≤k) (hv:v=if bt s 0>127 then n - w else n) (hv0: -2147483648≤v) (hv1:v≤2147483647):
  toponymref16_AsInt.l0 (k+1) n w i s=if (strOfNums (sgn (four v))).toList=s.toList then some (v,0) else some (0,160):=by
 have hb:toponymref16_Bytes.f k v=some (strOfNums (sgn (four v))):=by rw[bytes_f k v (by omega) (by omega) hk,if_pos ⟨hv0,hv1⟩]
 unfold toponymref16_AsInt.l0
 rw[if_neg h,if_pos hs]
 by_cases hc:bt s 0>127
 ·rw[if_pos hc] at hv
  rw[if_pos hc,← hv,IntWalk.wrap64_in v (by omega),hb]
  rfl
 ·rw[if_neg hc] at hv
  rw[if_neg hc,← hv,hb]
  rfl
theorem i8w (b:Int) (h0:0≤b) (h1:b≤255):wrap32 (IntKind.i8.wrap b)=if b>127 then b - 256 else b:=by
 have:IntKind.i8.wrap b=if b>127 then b - 256 else b:=by
  unfold IntKind.wrap
  simp[IntKind.bits,IntKind.signed]
  split <;>split <;>omega
 rw[this]
 split <;>exact IntWalk.wrap32_in _ (by omega)
theorem fin_ {α :Type} (c:Prop) [Decidable c] (x y: α):∃ r,(if c then some x else some y)=some r∧(if c then some x else some y)=some r:=by
 by_cases h:c
 ·exact⟨x,by rw[if_pos h],by rw[if_pos h]⟩
 ·exact⟨y,by rw[if_neg h],by rw[if_neg h]⟩
theorem asInt_same (k:Nat) (hk:30≤k) (a0:Int) (a1:Bool) (a2:Int) (s:ByteArray) (l:List S57):∃ r,prims_AsInt.f k a0 a1 a2 s l=some r∧toponymref16_AsInt.f k a0 a1 a2 s l=some r:=by
 obtain⟨k,rfl⟩:∃ q,k=q+5:=⟨k - 5,by omega⟩
 unfold prims_AsInt.f toponymref16_AsInt.f prims_plain.f
 by_cases hm:a1=true
 ·rw[if_pos hm,if_pos hm]
  exact⟨(0,160),by simp,rfl⟩
 ·rw[if_neg hm,if_neg hm,Option.bind_some]
  by_cases hl:(l.length:Int)>0
  ·rw[if_pos hl]
   have: ¬ (((l.length:Int)==0)=true):=by simp;intro h;subst h;simp at hl
   rw[if_neg this]
   exact⟨_,rfl,rfl⟩
  ·rw[if_neg hl]
   have:(((l.length:Int)==0)=true):=by simp;exact List.eq_nil_of_length_eq_zero (by omega)
   rw[if_pos this]
   by_cases h1:(s.size:Int)<1
   ·rw[if_pos h1,if_pos h1];exact⟨_,rfl,rfl⟩
   ·rw[if_neg h1,if_neg h1]
    by_cases h4:(s.size:Int)>4
    ·rw[if_pos h4,if_pos h4];exact⟨_,rfl,rfl⟩
    ·have b0:=bt_range s 0
     have b1:=bt_range s 1
     have b2:=bt_range s 2
     have b3:=bt_range s 3
     rw[if_neg h4,if_neg h4,if_pos (by omega),i8w _ b0.1 b0.2,r_step s _ 0 1 0 1 rfl (by omega) (by omega) (by omega) (by omega) (by omega) (by omega) (by omega)]
     obtain⟨x,hx⟩:∃ x,x=if bt s 0>127 then bt s 0 - 256 else bt s 0:=⟨_,rfl⟩
     rw[← hx]
     have hx':(bt s 0>127∧x=bt s 0 - 256)∨(bt s 0≤127∧x=bt s 0):=by split at hx <;>omega
     have hsz:s.size=1∨s.size=2∨s.size=3∨s.size=4:=by omega
     rcases hsz with hz|hz|hz|hz
     ·rw[p_end s _ _ _ (by omega) (by omega) (by omega) (by omega),r_end s _ _ _ _ x (by omega) (by omega) (by omega) (by split <;>omega) (by omega) (by omega)]
      exact fin_ _ _ _
     ·rw[p_step s _ _ 1 2 rfl (by omega) (by omega) (by omega) (by omega) (by omega),p_end s _ _ _ (by omega) (by omega) (by omega) (by omega),r_step s _ _ _ 1 2 rfl (by omega) (by omega) (by omega) (by omega) (by omega) (by omega) (by omega),r_end s _ _ _ _ (x*256+bt s 1) (by omega) (by omega) (by omega) (by split <;>omega) (by omega) (by omega)]
      exact fin_ _ _ _
     ·rw[p_step s _ _ 1 2 rfl (by omega) (by omega) (by omega) (by omega) (by omega),p_step s _ _ 2 3 rfl (by omega) (by omega) (by omega) (by omega) (by omega),p_end s _ _ _ (by omega) (by omega) (by omega) (by omega),r_step s _ _ _ 1 2 rfl (by omega) (by omega) (by omega) (by omega) (by omega) (by omega) (by omega),r_step s _ _ _ 2 3 rfl (by omega) (by omega) (by omega) (by omega) (by omega) (by omega) (by omega),r_end s _ _ _ _ ((x*256+bt s 1)*256+bt s 2) (by omega) (by omega) (by omega) (by split <;>omega) (by omega) (by omega)]
      exact fin_ _ _ _
     ·rw[p_step s _ _ 1 2 rfl (by omega) (by omega) (by omega) (by omega) (by omega),p_step s _ _ 2 3 rfl (by omega) (by omega) (by omega) (by omega) (by omega),p_step s _ _ 3 4 rfl (by omega) (by omega) (by omega) (by omega) (by omega),p_end s _ _ _ (by omega) (by omega) (by omega) (by omega),r_step s _ _ _ 1 2 rfl (by omega) (by omega) (by omega) (by omega) (by omega) (by omega) (by omega),r_step s _ _ _ 2 3 rfl (by omega) (by omega) (by omega) (by omega) (by omega) (by omega) (by omega),r_step s _ _ _ 3 4 rfl (by omega) (by omega) (by omega) (by omega) (by omega) (by omega) (by omega),r_end s _ _ _ _ (((x*256+bt s 1)*256+bt s 2)*256+bt s 3) (by omega) (by omega) (by omega) (by split <;>omega) (by omega) (by omega)]
      exact fin_ _ _ _
def sgb (n:Int):ByteArray:=strOfNums (sgn (four n))
/-- What the document tells of an element's whole number. -/
theorem rInt (e:S57):∃ n x,Evt (fun k=>toponymref16_AsInt.f k e.f0 e.f1 e.f2 e.f3 e.f4) (n,x)∧(x=0→ -2147483648≤n∧n≤2147483647∧e.f1=false∧e.f4=[]∧e.f3=sgb n):=by
 have key:∀ v,prims_AsInt.f 40 e.f0 e.f1 e.f2 e.f3 e.f4=some v→Evt (fun k=>toponymref16_AsInt.f k e.f0 e.f1 e.f2 e.f3 e.f4) v:=by
  intro v hv
  obtain⟨r,h1,h2⟩:=asInt_same 40 (by omega) e.f0 e.f1 e.f2 e.f3 e.f4
  have hr:r=v:=Option.some.inj (h1.symm.trans hv)
  subst hr
  exact Evt.mono_ (fun k=>toponymref16_AsInt.mono _ _ _ _ _ k) h2
 cases hb:e.f1
 ·by_cases hl:(e.f4.length:Int)>0
  ·refine⟨0,160,?_,fun h=>absurd h (by decide)⟩
   have:=key (0,160) (by
    rw[hb]
    unfold prims_AsInt.f prims_plain.f
    have hh: ¬ (((e.f4.length:Int)==0)=true):=by simp;intro h;rw[h] at hl;simp at hl
    simp[hh])
   rw[hb] at this
   exact this
  ·have hn:e.f4=[]:=List.length_eq_zero_iff.1 (by omega)
   obtain⟨n,x,h,ht⟩:=asInt_f e.f3
   have h40:prims_AsInt.f 40 0 false 0 e.f3 ([]:List S57)=some (n,x):=by
    have hm:∀ j,prims_AsInt.f (12+j) 0 false 0 e.f3 ([]:List S57)=some (n,x):=by
     intro j
     induction j with
     |zero=>exact h
     |succ j ih=>exact prims_AsInt.mono _ _ _ _ _ _ _ ih
    exact hm 28
   refine⟨n,x,?_,fun hx=>?_⟩
   ·have:=key (n,x) (by rw[hb,hn];exact h40)
    rw[hb] at this
    exact this
   ·rcases ht with⟨_,a,b,c⟩|⟨_,c⟩
    ·refine⟨a,b,rfl,hn,?_⟩
     exact B_inj (by rw[← toList_B,← toList_B];exact c.symm)
    ·omega
 ·refine⟨0,160,?_,fun h=>absurd h (by decide)⟩
  have:=key (0,160) (by rw[hb];unfold prims_AsInt.f prims_plain.f;simp)
  rw[hb] at this
  exact this
theorem rInt_of (n:Int) (h: -2147483648≤n∧n≤2147483647) (c m:Int):Evt (fun k=>toponymref16_AsInt.f k c false m (sgb n) ([]:List S57)) (n,0):=by
 obtain⟨K,hK⟩:=asInt_of n h c m
 obtain⟨r,h1,h2⟩:=asInt_same (K+30) (by omega) c false m (sgb n) []
 have hr:r=(n,0):=Option.some.inj (h1.symm.trans (hK _ (by omega)))
 subst hr
 exact Evt.mono_ (fun k=>toponymref16_AsInt.mono _ _ _ _ _ k) h2
end Go.Proofs.Ytdjkemhmhkpmkaa.PrL
