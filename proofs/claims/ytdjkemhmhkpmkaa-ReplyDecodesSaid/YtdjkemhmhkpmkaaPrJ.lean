import Derived.Test.YtdjkemhmhkpmkaaPrI
import Derived.Test.YtdjkemhmhkpmkaaGM2
import Derived.Test.YtdjkemhmhkpmkaaGM2
/- Plain laws of whole numbers' contents: the document's bytes. -/
namespace Go.Proofs.Ytdjkemhmhkpmkaa.PrJ
open Go Go.RowKit Go.Proofs.Ytdjkemhmhkpmkaa.GA Go.Proofs.Ytdjkemhmhkpmkaa.OA Go.Proofs.Ytdjkemhmhkpmkaa.PuE Go.Proofs.Ytdjkemhmhkpmkaa.PrI Go.Proofs.YtdjkemhmhkpmkaaW.PrintWords Go.Proofs.YtdjkemhmhkpmkaaW.PrintLast Go.Proofs.YtdjkemhmhkpmkaaW.PrintMore
set_option linter.unusedVariables false
set_option linter.unusedSimpArgs false
theorem son_size (l:List Int):(strOfNums l).size=l.length:=by simp[strOfNums,ByteArray.size]
theorem son_append (a b:List Int):strOfNums a++strOfNums b=strOfNums (a++b):=by
 apply ByteArray.ext
 simp[strOfNums,ByteArray.data_append]
def be:Nat→Int→List Int→List Int
 |0,_,acc=>acc
 |j+1,m,acc=>be j (m / 256) (m % 256::acc)
theorem tm (m:Int) (h:0≤m):Int.tmod m 256 % 256=m % 256:=by rw[Int.tmod_eq_emod_of_nonneg h];omega
theorem td (m:Int) (h:0≤m) (h2:m≤9223372036854775807):wrap64 (Int.tdiv m 256)=m / 256:=by
 rw[Int.tdiv_eq_ediv_of_nonneg h]
 exact IntWalk.wrap64_in _ (by omega)
theorem digits_l1:∀ (k:Nat) (m:Int) (acc:List Int) (i s:Int),0≤m→m≤9223372036854775807→0≤i→i≤s→s≤100→acc.length≤1000 - (s - i).toNat→(s - i).toNat<k→toponymref16_digits.l1 k m (strOfNums acc) i s=some (strOfNums (be (s - i).toNat m acc),true)
 |0,_,_,_,_,_,_,_,_,_,_,h=>by omega
 |k+1,m,acc,i,s,hm,hm2,hi,his,hs,ha,hk=>by
  unfold toponymref16_digits.l1
  by_cases h:i<s
  ·have hsz:(strOfNums [(Int.tmod m 256) % 256]).size+(strOfNums acc).size≤9223372036854775807:=by
    rw[son_size,son_size];simp;omega
   rw[if_pos h,if_pos hsz,tm m hm,td m hm hm2,son_append,IntWalk.wrap64_in (i+1) (by omega)]
   have e:(s - i).toNat=(s - (i+1)).toNat+1:=by omega
   rw[e,be]
   exact digits_l1 k (m / 256) ([m % 256]++acc) (i+1) s (by omega) (by omega) (by omega) (by omega) hs (by simp;omega) (by omega)
  ·rw[if_neg h]
   have e:(s - i).toNat=0:=by omega
   rw[e,be]
theorem digits_l2:∀ (k:Nat) (m:Int) (acc:List Int) (i s:Int),0≤m→m≤9223372036854775807→0≤i→i≤s→s≤100→acc.length≤1000 - (s - i).toNat→(s - i).toNat<k→toponymref16_digits.l2 k m (strOfNums acc) i s=some (strOfNums (be (s - i).toNat m acc),true)
 |0,_,_,_,_,_,_,_,_,_,_,h=>by omega
 |k+1,m,acc,i,s,hm,hm2,hi,his,hs,ha,hk=>by
  unfold toponymref16_digits.l2
  by_cases h:i<s
  ·have hsz:(strOfNums [(Int.tmod m 256) % 256]).size+(strOfNums acc).size≤9223372036854775807:=by
    rw[son_size,son_size];simp;omega
   rw[if_pos h,if_pos hsz,tm m hm,td m hm hm2,son_append,IntWalk.wrap64_in (i+1) (by omega)]
   have e:(s - i).toNat=(s - (i+1)).toNat+1:=by omega
   rw[e,be]
   exact digits_l2 k (m / 256) ([m % 256]++acc) (i+1) s (by omega) (by omega) (by omega) (by omega) hs (by simp;omega) (by omega)
  ·rw[if_neg h]
   have e:(s - i).toNat=0:=by omega
   rw[e,be]
def half:Nat→Int
 |0=>128
 |j+1=>256*half j
theorem digits_l0:∀ (j k:Nat) (x i n s:Int),0≤i→(s - i).toNat=j→i≤s→s≤4→0<x→x*256 ^ j≤2147483648→ -9223372036854775808≤n→n≤9223372036854775807→j+8≤k→
  toponymref16_digits.l0 k x i n s=if n< -(x*256 ^ j)∨x*256 ^ j≤n then some (⟨#[]⟩,false) else some (strOfNums (be s.toNat (if n<0 then n+2*(x*256 ^ j) else n) []),true)
 |j,0,_,_,_,_,_,_,_,_,_,_,_,_,h=>by omega
 |0,k+1,x,i,n,s,hi,hj,his,hs,hx,hxb,hn0,hn1,hk=>by
  unfold toponymref16_digits.l0
  have e0:(⟨#[]⟩:ByteArray)=strOfNums []:=rfl
  rw[Int.pow_zero,Int.mul_one] at hxb ⊢
  rw[if_neg (by omega),IntWalk.wrap64_in (-x) (by omega)]
  by_cases h1:n< -x
  ·rw[if_pos h1,if_pos (.inl h1)]
  ·rw[if_neg h1]
   by_cases h2:n≥x
   ·rw[if_pos h2,if_pos (.inr h2)]
   ·have hc: ¬ (n< -x∨x≤n):=by omega
    rw[if_neg h2,if_neg hc]
    by_cases h3:n<0
    ·rw[if_pos h3,if_pos h3,IntWalk.wrap64_in (2*x) (by omega),IntWalk.wrap64_in (n+2*x) (by omega),e0,digits_l1 k _ [] 0 s (by omega) (by omega) (by omega) (by omega) (by omega) (by simp) (by omega)]
     simp
    ·rw[if_neg h3,if_neg h3,e0,digits_l2 k _ [] 0 s (by omega) (by omega) (by omega) (by omega) (by omega) (by simp) (by omega)]
     simp
 |j+1,k+1,x,i,n,s,hi,hj,his,hs,hx,hxb,hn0,hn1,hk=>by
  unfold toponymref16_digits.l0
  have hp:(0:Int)<256 ^ j:=Int.pow_pos (by decide)
  have hq:x*256 ^ (j+1)=(x*256)*256 ^ j:=by rw[Int.pow_succ,Int.mul_assoc,Int.mul_comm 256]
  have hle:x*256≤(x*256)*256 ^ j:=by
   have:=Int.mul_le_mul_of_nonneg_left (c:=x*256) (show(1:Int)≤256 ^ j by omega) (by omega)
   omega
  rw[if_pos (by omega),IntWalk.wrap64_in (x*256) (by omega),IntWalk.wrap64_in (i+1) (by omega)]
  rw[digits_l0 j k (x*256) (i+1) n s (by omega) (by omega) (by omega) hs (by omega) (by rw[← hq];exact hxb) hn0 hn1 (by omega),hq]
theorem digits_f (k:Nat) (n s:Int) (h1:1≤s) (h4:s≤4) (hn0: -9223372036854775808≤n) (hn1:n≤9223372036854775807) (hk:12≤k):
  toponymref16_digits.f k n s=if n< -(128*256 ^ (s - 1).toNat)∨128*256 ^ (s - 1).toNat≤n then some (⟨#[]⟩,false) else some (strOfNums (be s.toNat (if n<0 then n+2*(128*256 ^ (s - 1).toNat) else n) []),true):=by
 unfold toponymref16_digits.f
 refine digits_l0 (s - 1).toNat k 128 1 n s (by omega) rfl h1 h4 (by decide) ?_ hn0 hn1 (by omega)
 have:s=1∨s=2∨s=3∨s=4:=by omega
 rcases this with rfl|rfl|rfl|rfl <;>decide
/-- The document's bytes. -/
theorem bytes_f (k:Nat) (n:Int) (hn0: -9223372036854775808≤n) (hn1:n≤9223372036854775807) (hk:20≤k):
  toponymref16_Bytes.f k n=if -2147483648≤n∧n≤2147483647 then some (strOfNums (sgn (four n))) else some ⟨#[]⟩:=by
 obtain⟨k,rfl⟩:∃ q,k=q+6:=⟨k - 6,by omega⟩
 have w2:wrap64 (1+1)=2:=IntWalk.wrap64_in (1+1) (by omega)
 have w3:wrap64 (2+1)=3:=IntWalk.wrap64_in (2+1) (by omega)
 have w4:wrap64 (3+1)=4:=IntWalk.wrap64_in (3+1) (by omega)
 have w5:wrap64 (4+1)=5:=IntWalk.wrap64_in (4+1) (by omega)
 unfold toponymref16_Bytes.f
 simp only[toponymref16_Bytes.l0,w2,w3,w4,w5]
 rw[digits_f _ n 1 (by decide) (by decide) hn0 hn1 (by omega),digits_f _ n 2 (by decide) (by decide) hn0 hn1 (by omega),digits_f _ n 3 (by decide) (by decide) hn0 hn1 (by omega),digits_f _ n 4 (by decide) (by decide) hn0 hn1 (by omega)]
 have p1:(128:Int)*256 ^ ((1:Int) - 1).toNat=128:=by decide
 have p2:(128:Int)*256 ^ ((2:Int) - 1).toNat=32768:=by decide
 have p3:(128:Int)*256 ^ ((3:Int) - 1).toNat=8388608:=by decide
 have p4:(128:Int)*256 ^ ((4:Int) - 1).toNat=2147483648:=by decide
 rw[p1,p2,p3,p4]
 have t1:(1:Int).toNat=1:=rfl
 have t2:(2:Int).toNat=2:=rfl
 have t3:(3:Int).toNat=3:=rfl
 have t4:(4:Int).toNat=4:=rfl
 rw[t1,t2,t3,t4]
 simp only[be]
 by_cases c1:n< -128∨128≤n
 ·rw[if_pos c1]
  by_cases c2:n< -32768∨32768≤n
  ·rw[if_pos c2]
   by_cases c3:n< -8388608∨8388608≤n
   ·rw[if_pos c3]
    by_cases c4:n< -2147483648∨2147483648≤n
    ·have hc: ¬ (-2147483648≤n∧n≤2147483647):=by omega
     rw[if_pos c4,if_neg hc]
     simp
    ·have hc: -2147483648≤n∧n≤2147483647:=by omega
     rw[if_neg c4,if_pos hc]
     have e:sgn (four n)=four n:=by
      unfold four sgn
      rw[if_neg (by omega)]
     rw[e]
     simp only[if_true,Option.bind_some,four]
     by_cases hn:n<0
     ·rw[if_pos hn]
      refine congrArg (fun l=>some (strOfNums l)) ?_
      simp only[List.cons.injEq,and_true]
      omega
     ·rw[if_neg hn]
      refine congrArg (fun l=>some (strOfNums l)) ?_
      simp only[List.cons.injEq,and_true]
      omega
   ·rw[if_neg c3,if_pos (show -2147483648≤n∧n≤2147483647 by omega)]
    have e:sgn (four n)=[n / 65536 % 256,n / 256 % 256,n % 256]:=by
     unfold four sgn
     rw[if_pos (by omega)]
     unfold sgn
     rw[if_neg (by omega)]
    rw[e]
    simp only[if_true,Option.bind_some]
    simp
    congr 1
    split <;>simp <;>omega
  ·rw[if_neg c2,if_pos (show -2147483648≤n∧n≤2147483647 by omega)]
   have e:sgn (four n)=[n / 256 % 256,n % 256]:=by
    unfold four sgn
    rw[if_pos (by omega)]
    unfold sgn
    rw[if_pos (by omega)]
    unfold sgn
    rw[if_neg (by omega)]
   rw[e]
   simp
   congr 1
   split <;>simp <;>omega
 ·rw[if_neg c1,if_pos (show -2147483648≤n∧n≤2147483647 by omega)]
  have e:sgn (four n)=[n % 256]:=by
   unfold four sgn
   rw[if_pos (by omega)]
   unfold sgn
   rw[if_pos (by omega)]
   unfold sgn
   rw[if_pos (by omega)]
   rfl
  rw[e]
  simp
  congr 1
  split <;>simp <;>omega
end Go.Proofs.Ytdjkemhmhkpmkaa.PrJ
