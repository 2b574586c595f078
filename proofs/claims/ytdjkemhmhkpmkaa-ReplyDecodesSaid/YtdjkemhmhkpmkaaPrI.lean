import Derived.Test.YtdjkemhmhkpmkaaPuEv
import Derived.Test.YtdjkemhmhkpmkaaOA
import Derived.Test.YtdjkemhmhkpmkaaGM1
import Derived.Test.YtdjkemhmhkpmkaaGM1
/- Plain laws of whole numbers' contents: they are read as they were made. -/
namespace Go.Proofs.Ytdjkemhmhkpmkaa.PrI
open Go Go.RowKit Go.Proofs.Ytdjkemhmhkpmkaa.GA Go.Proofs.Ytdjkemhmhkpmkaa.OA Go.Proofs.Ytdjkemhmhkpmkaa.PuE Go.Proofs.YtdjkemhmhkpmkaaW.PrintWords Go.Proofs.YtdjkemhmhkpmkaaW.PrintLast Go.Proofs.YtdjkemhmhkpmkaaW.PrintMore
set_option linter.unusedVariables false
set_option linter.unusedSimpArgs false
/-- The fewest bytes of a number. -/
def sgn:List Int→List Int
 |a::b::l=>if (a=0∧b<128)∨(a=255∧b≥128) then sgn (b::l) else a::b::l
 |l=>l
theorem signed_l0:∀ (l:List Int) (k:Nat),l.length<k→prims_signed.l0 k l=some (strOfNums (sgn l))
 |[],k+1,_=>by simp[prims_signed.l0,sgn]
 |[a],k+1,_=>by simp[prims_signed.l0,sgn]
 |a::b::l,k+1,h=>by
  have ih:=signed_l0 (b::l) k (by simp at h ⊢;omega)
  have h1:((a::b::l).length:Int)>1:=by simp;omega
  have h0:0<((a::b::l).length:Int):=by omega
  have h2:(1:Int)<((a::b::l).length:Int):=by omega
  have h3:(1:Int)≤((a::b::l).length:Int):=by omega
  have r0:rd (a::b::l) 0=a:=rfl
  have r1:rd (a::b::l) 1=b:=rfl
  have hd:List.drop 1 (a::b::l)=b::l:=rfl
  simp only[prims_signed.l0,if_pos h1,if_pos h0,if_pos h2,if_pos h3,r0,r1,hd,ih,sgn]
  by_cases ha:a=0
  ·subst ha
   by_cases hb:b<128
   ·simp[hb,ih]
   ·simp[hb,ih]
  ·by_cases ha':a=255
   ·subst ha'
    by_cases hb:b≥128
    ·simp[hb,ih]
    ·simp[hb,ih]
   ·simp[ha,ha']
def four (n:Int):List Int:=[n / 16777216 % 256,n / 65536 % 256,n / 256 % 256,n % 256]
theorem signed_f (k:Nat) (n:Int) (h:5≤k):prims_signed.f k n=some (strOfNums (sgn (four n))):=by
 unfold prims_signed.f
 exact signed_l0 _ k (by simp;omega)
theorem wrap32_range (n:Int): -2147483648≤wrap32 n∧wrap32 n≤2147483647:=by unfold wrap32;omega
theorem bits32_range (a b:Int): -2147483648≤Go.bits .or .i32 a b∧Go.bits .or .i32 a b≤2147483647:=by
 unfold Go.bits
 rw[IntWalk.i32_left]
 exact wrap32_range _
/-- What AsInt tells. -/
def Told (s:ByteArray) (n x:Int):Prop:=(x=0∧ -2147483648≤n∧n≤2147483647∧(strOfNums (sgn (four n))).toList=s.toList)∨(n=0∧x=160)
theorem asInt_l0 (s:ByteArray):∀ (k:Nat) (x i:Int), -2147483648≤x→x≤2147483647→0≤i→i≤5→(s.size:Int)≤4→11 - i.toNat≤k→∃ n e,prims_AsInt.l0 k x i s=some (n,e)∧Told s n e
 |0,x,i,_,_,_,_,_,hk=>by omega
 |k+1,x,i,hx0,hx1,hi,hi5,hs,hk=>by
  unfold prims_AsInt.l0
  by_cases h:i<(s.size:Int)
  ·rw[if_pos h,if_pos hi]
   have hw:wrap64 (i+1)=i+1:=IntWalk.wrap64_in _ (by omega)
   rw[hw]
   obtain⟨h1,h2⟩:=bits32_range (wrap32 (x*256)) (wrap32 (bt s i))
   exact asInt_l0 s k _ (i+1) h1 h2 (by omega) (by omega) hs (by omega)
  ·rw[if_neg h,signed_f k x (by omega)]
   simp only[Option.bind_some]
   by_cases ht:(strOfNums (sgn (four x))).toList=s.toList
   ·rw[if_pos ht]
    exact⟨_,_,rfl,.inl ⟨rfl,by rw[IntWalk.wrap64_in _ (by omega)];exact hx0,by rw[IntWalk.wrap64_in _ (by omega)];exact hx1,by rw[IntWalk.wrap64_in _ (by omega)];exact ht⟩⟩
   ·rw[if_neg ht]
    exact⟨_,_,rfl,.inr ⟨rfl,rfl⟩⟩
theorem asInt_f (s:ByteArray):∃ n e,prims_AsInt.f 12 0 false 0 s ([]:List S57)=some (n,e)∧Told s n e:=by
 unfold prims_AsInt.f prims_plain.f
 simp only[Bool.false_eq_true,if_false,List.length_nil]
 by_cases h1:(s.size:Int)<1
 ·exact⟨0,160,by simp[h1],.inr ⟨rfl,rfl⟩⟩
 ·by_cases h4:(s.size:Int)>4
  ·exact⟨0,160,by simp[h1,h4],.inr ⟨rfl,rfl⟩⟩
  ·have h0:0<(s.size:Int):=by omega
   obtain⟨a,b⟩:=wrap32_range (IntKind.i8.wrap (bt s 0))
   obtain⟨n,e,h,ht⟩:=asInt_l0 s 12 _ 1 a b (by omega) (by omega) (by omega) (by decide)
   refine⟨n,e,?_,ht⟩
   rw[← h]
   simp[h1,h4,h0]
   intro he
   subst he
   exact absurd h0 (by decide)
theorem wrap32_in (x:Int) (h: -2147483648≤x∧x≤2147483647):wrap32 x=x:=by unfold wrap32;omega
theorem shift_or (x:Int) (b:Nat) (hx: -8388608≤x∧x≤8388607) (hb:b<256):Go.bits .or .i32 (wrap32 (x*256)) (wrap32 (b:Int))=x*256+b:=by
 rw[wrap32_in (x*256) (by omega),wrap32_in (b:Int) (by omega)]
 obtain⟨y,hy,hyx⟩:∃ y:Nat,y<16777216∧(y:Int)=x % 16777216:=⟨(x % 16777216).toNat,by omega,by omega⟩
 have h1:(BitVec.ofInt 32 (x*256)).toNat=y*256:=by
  rw[BitVec.toNat_ofInt]
  have:(x*256) % ((2 ^ 32:Nat):Int)=((y*256:Nat):Int):=by
   rw[show((2 ^ 32:Nat):Int)=4294967296 from rfl]
   omega
  rw[this]
  rfl
 have h2:(BitVec.ofInt 32 (b:Int)).toNat=b:=by
  rw[BitVec.ofInt_natCast,BitVec.toNat_ofNat];exact Nat.mod_eq_of_lt (by omega)
 show IntKind.i32.wrap ((BitVec.ofInt 32 (x*256) ||| BitVec.ofInt 32 (b:Int)).toNat:Int)=_
 rw[BitVec.toNat_or,h1,h2]
 have h3:=Nat.shiftLeft_add_eq_or_of_lt (b:=b) (i:=8) hb y
 rw[Nat.shiftLeft_eq] at h3
 rw[show y*256 ||| b=y*256+b from h3.symm,IntWalk.i32_left]
 unfold wrap32
 omega
def s8 (a:Int):Int:=if a<128 then a else a - 256
theorem s8B:((List.range 256).all fun b=>wrap32 (IntKind.i8.wrap (b:Int))==s8 (b:Int))=true:=by kernel_rfl
theorem s8_eq (b:Nat) (h:b<256):wrap32 (IntKind.i8.wrap (b:Int))=s8 (b:Int):=by
 have:=List.all_eq_true.1 s8B b (List.mem_range.2 h)
 simpa using this
def vl:List Int→Int
 |[]=>0
 |a::l=>l.foldl (fun x b=>x*256+b) (s8 a)
theorem sgn_in:∀ l:List Int,(∀ x ∈ sgn l,x ∈ l)∧(sgn l).length≤l.length∧(l≠[]→sgn l≠[])
 |[]=>by simp[sgn]
 |[a]=>by simp[sgn]
 |a::b::l=>by
  obtain⟨h1,h2,h3⟩:=sgn_in (b::l)
  unfold sgn
  split
  ·exact⟨fun x hx=>List.mem_cons_of_mem _ (h1 x hx),by simp at h2 ⊢;omega,fun _=>h3 (by simp)⟩
  ·exact⟨fun x hx=>hx,Nat.le_refl _,fun _=>by simp⟩
theorem vl_sgn:∀ l:List Int,(∀ x ∈ l,0≤x∧x<256)→vl (sgn l)=vl l
 |[],_=>rfl
 |[a],_=>rfl
 |a::b::l,h=>by
  have hb:=h b (by simp)
  unfold sgn
  split
  ·rename_i hc
   rw[vl_sgn (b::l) (fun x hx=>h x (List.mem_cons_of_mem _ hx))]
   show l.foldl _ (s8 b)=l.foldl _ (s8 a*256+b)
   congr 1
   unfold s8
   rcases hc with⟨rfl,h2⟩|⟨rfl,h2⟩
   ·simp[h2]
   ·rw[if_neg (show ¬ b<128 by omega),if_neg (by decide)]
    omega
  ·rfl
theorem vl_four (n:Int) (h: -2147483648≤n∧n≤2147483647):vl (four n)=n:=by
 unfold four vl s8
 simp only[List.foldl_cons,List.foldl_nil]
 split <;>omega
theorem four_in (n:Int):∀ x ∈ four n,0≤x∧x<256:=by
 intro x hx
 simp only[four,List.mem_cons,List.not_mem_nil,or_false] at hx
 omega
theorem bt_son (l:List Int) (h:∀ x ∈ l,0≤x∧x<256) (p r:List Int) (b:Int) (hl:l=p++b::r):bt (strOfNums l) (p.length:Int)=b:=by
 have hsz:(strOfNums l).size=l.length:=by rw[son,size_A8,List.length_map]
 rw[bt_B _ _ (by rw[hsz,hl];simp)]
 have hb:=h b (by rw[hl];simp)
 have hB:B (strOfNums l)=l.map fun n=>UInt8.ofNat n.toNat:=by rw[son,B_A8]
 have hg:(B (strOfNums l))[p.length]? =some (UInt8.ofNat b.toNat):=by rw[hB,hl];simp
 obtain⟨_,hg3⟩:=List.getElem?_eq_some_iff.1 hg
 rw[hg3]
 simp
 omega
theorem asInt_loop (l:List Int) (h:∀ x ∈ l,0≤x∧x<256) (h4:l.length≤4):∀ (r p:List Int) (x:Int),l=p++r→1≤p.length→(p.length=1→ -128≤x∧x≤127)→(p.length=2→ -32768≤x∧x≤32767)→(p.length=3→ -8388608≤x∧x≤8388607)→(p.length=4→ -2147483648≤x∧x≤2147483647)→
  ∀ k,prims_AsInt.l0 (k+10+r.length) x (p.length:Int) (strOfNums l)=(if (strOfNums (sgn (four (r.foldl (fun x b=>x*256+b) x)))).toList=(strOfNums l).toList then some (r.foldl (fun x b=>x*256+b) x,0) else some (0,160)):=by
 have hsz:(strOfNums l).size=l.length:=by rw[son,size_A8,List.length_map]
 intro r
 induction r with
 |nil=>
  intro p x hp h1 b1 b2 b3 b4 k
  have hpl:p.length=l.length:=by rw[hp];simp
  have hx: -2147483648≤x∧x≤2147483647:=by omega
  rw[show k+10+([]:List Int).length=(k+9)+1 by simp]
  unfold prims_AsInt.l0
  rw[if_neg (by rw[hsz];omega),signed_f (k+9) x (by omega)]
  simp only[Option.bind_some,List.foldl_nil]
  rw[w64 x (by omega)]
  rfl
 |cons b r ih=>
  intro p x hp h1 b1 b2 b3 b4 k
  have hpl:p.length+1+r.length=l.length:=by rw[hp];simp;omega
  have hb:=h b (by rw[hp];simp)
  have hx: -8388608≤x∧x≤8388607:=by omega
  rw[show k+10+(b::r).length=(k+10+r.length)+1 by simp;omega]
  unfold prims_AsInt.l0
  rw[if_pos (by rw[hsz];omega),if_pos (by omega),bt_son l h p r b hp]
  obtain⟨n,hn⟩:∃ n:Nat,b=(n:Int):=⟨b.toNat,by omega⟩
  have hpl2:(p++[b]).length=p.length+1:=by simp
  rw[hn,shift_or x n hx (by omega),w64 ((p.length:Int)+1) (by omega),← hn]
  have:=ih (p++[b]) (x*256+b) (by rw[hp];simp) (by rw[hpl2];omega) (fun hq=>by rw[hpl2] at hq;omega) (fun hq=>by rw[hpl2] at hq;omega) (fun hq=>by rw[hpl2] at hq;omega) (fun hq=>by rw[hpl2] at hq;omega) k
  rw[show((p++[b]).length:Int)=(p.length:Int)+1 by simp] at this
  rw[this,List.foldl_cons]
/-- A whole number's contents are read as it. -/
theorem asInt_of (n:Int) (h: -2147483648≤n∧n≤2147483647) (c m:Int):Evt (fun k=>prims_AsInt.f k c false m (strOfNums (sgn (four n))) ([]:List S57)) (n,0):=by
 obtain⟨g1,g2,g3⟩:=sgn_in (four n)
 have hin:∀ x ∈ sgn (four n),0≤x∧x<256:=fun x hx=>four_in n x (g1 x hx)
 have hv:vl (sgn (four n))=n:=by rw[vl_sgn _ (four_in n),vl_four n h]
 have h4:(sgn (four n)).length≤4:=g2
 have hne:=g3 (by simp[four])
 have hsz:(strOfNums (sgn (four n))).size=(sgn (four n)).length:=by rw[son,size_A8,List.length_map]
 cases hl:sgn (four n) with
 |nil=>exact absurd hl hne
 |cons a r=>
  rw[hl] at hin hv h4 hsz
  have ha:=hin a (by simp)
  have hb0:bt (strOfNums (a::r)) 0=a:=bt_son (a::r) hin [] r a rfl
  obtain⟨q,hq⟩:∃ q:Nat,a=(q:Int):=⟨a.toNat,by omega⟩
  have hlen:(a::r).length=r.length+1:=rfl
  refine⟨10+r.length,fun k hk=>?_⟩
  obtain⟨j,rfl⟩:∃ j,k=j+10+r.length:=⟨k - 10 - r.length,by omega⟩
  unfold prims_AsInt.f prims_plain.f
  simp only[Bool.false_eq_true,if_false,List.length_nil,Option.bind_some]
  rw[if_pos (by rfl),if_neg (by omega),if_neg (by omega),if_pos (by omega),hb0,hq,s8_eq q (by omega),← hq]
  have hs8: -128≤s8 a∧s8 a≤127:=by unfold s8;split <;>omega
  have:=asInt_loop (a::r) hin h4 r [a] (s8 a) rfl (by simp) (fun _=>hs8) (by simp) (by simp) (by simp) j
  rw[show(([a]:List Int).length:Int)=1 from rfl] at this
  rw[this]
  have hvr:r.foldl (fun x b=>x*256+b) (s8 a)=n:=hv
  rw[hvr,hl,if_pos rfl]
end Go.Proofs.Ytdjkemhmhkpmkaa.PrI
