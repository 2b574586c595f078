import Derived.Test.YtdjkemhmhkpmkaaPbB
import Derived.Test.YtdjkemhmhkpmkaaGM1
import Derived.Test.YtdjkemhmhkpmkaaGM1
/- Plain laws of elements: what bytes are read as; what was laid is read as it was, and what is read was laid so. -/
namespace Go.Proofs.Ytdjkemhmhkpmkaa.PbA
open Go Go.RowKit Go.Proofs.Ytdjkemhmhkpmkaa.GA Go.Proofs.Ytdjkemhmhkpmkaa.OA Go.Proofs.Ytdjkemhmhkpmkaa.PuE Go.Proofs.YtdjkemhmhkpmkaaW.PrintWords Go.Proofs.YtdjkemhmhkpmkaaW.PrintLast Go.Proofs.YtdjkemhmhkpmkaaW.PrintMore
set_option linter.unusedVariables false
set_option linter.unusedSimpArgs false
/-! ### bits of bytes -/
theorem bits_or_nat (x y:Nat) (hx:x<4611686018427387904) (hy:y<4611686018427387904):Go.bits .or .i64 (x:Int) (y:Int)=((x ||| y:Nat):Int):=by
 have h1:(BitVec.ofInt 64 (x:Int)).toNat=x:=by
  rw[BitVec.ofInt_natCast,BitVec.toNat_ofNat];exact Nat.mod_eq_of_lt (by omega)
 have h2:(BitVec.ofInt 64 (y:Int)).toNat=y:=by
  rw[BitVec.ofInt_natCast,BitVec.toNat_ofNat];exact Nat.mod_eq_of_lt (by omega)
 show IntKind.i64.wrap ((BitVec.ofInt 64 (x:Int) ||| BitVec.ofInt 64 (y:Int)).toNat:Int)=_
 rw[BitVec.toNat_or,h1,h2]
 have h3:x ||| y<2 ^ 62:=Nat.or_lt_two_pow (by omega) (by omega)
 rw[IntWalk.i64_left]
 exact w64 _ (by omega)
theorem two_bytes (a b:UInt8):Go.bits .or .i64 (wrap64 ((wrap64 (a.toNat:Int))*256)) (wrap64 (b.toNat:Int))=((a.toNat*256+b.toNat:Nat):Int):=by
 have ha:=a.toNat_lt
 have hb:=b.toNat_lt
 rw[w64 (a.toNat:Int) (by omega),w64 (b.toNat:Int) (by omega),w64 _ (by omega),show(a.toNat:Int)*256=((a.toNat*256:Nat):Int) by omega,bits_or_nat _ _ (by omega) (by omega)]
 congr 1
 have:=Nat.shiftLeft_add_eq_or_of_lt (b:=b.toNat) (i:=8) hb a.toNat
 rw[Nat.shiftLeft_eq] at this
 exact this.symm
theorem bitsB:((List.range 256).all fun t=>(Go.bits .and .i64 (t:Int) 31==((t % 32:Nat):Int)) && (Go.bits .and .i64 (t:Int) 32==((t / 32 % 2*32:Nat):Int)))=true:=by kernel_rfl
theorem bits_t (t:UInt8):Go.bits .and .i64 (wrap64 (t.toNat:Int)) 31=((t.toNat % 32:Nat):Int)∧Go.bits .and .i64 (wrap64 (t.toNat:Int)) 32=((t.toNat / 32 % 2*32:Nat):Int):=by
 have ht:=t.toNat_lt
 rw[w64 _ (by omega)]
 have h:=List.all_eq_true.1 bitsB t.toNat (List.mem_range.2 ht)
 simp only[Bool.and_eq_true,beq_iff_eq] at h
 exact h
/-! ### lengths -/
def szd:List UInt8→Except Int (Nat × Nat)
 |[]=>.error 150
 |c::l=>
  if c.toNat<128 then .ok (c.toNat,1)
  else if c.toNat<129 then .error 152
  else if c.toNat>130 then .error 152
  else if c.toNat - 128>l.length then .error 150
  else if c.toNat=130 then(if (lenB ((l.getD 0 0).toNat*256+(l.getD 1 0).toNat)).length=3 then .ok ((l.getD 0 0).toNat*256+(l.getD 1 0).toNat,3) else .error 152)
  else(if (lenB (l.getD 0 0).toNat).length=2 then .ok ((l.getD 0 0).toNat,2) else .error 152)
theorem drop_cons {s:ByteArray} {i:Nat} {c:UInt8} {l:List UInt8} (h:(B s).drop i=c::l):i<s.size∧bt s (i:Int)=(c.toNat:Int)∧(B s).drop (i+1)=l:=by
 have hl:i<(B s).length:=by
  rcases Nat.lt_or_ge i (B s).length with h'|h'
  ·exact h'
  ·rw[List.drop_eq_nil_of_le h'] at h;cases h
 have hs:i<s.size:=by rw[← len_B];exact hl
 rw[List.drop_eq_getElem_cons hl] at h
 injection h with h1 h2
 exact⟨hs,by rw[bt_B s i hs,h1],h2⟩
theorem drop_nil {s:ByteArray} {i:Nat} (h:(B s).drop i=[]):s.size≤i:=by
 rw[← len_B]
 exact List.drop_eq_nil_iff.1 h
def szR (i:Nat):Except Int (Nat × Nat)→Int × Int × Int
 |.error x=>(0,0,x)
 |.ok (n,h)=>((n:Int),((i+h:Nat):Int),0)
theorem length_len (n:Nat) (h:n≤65535):∃ t,ber_length.f (n:Int)=some t∧t.size=(lenB n).length:=⟨_,length_eq n h,size_A8 _⟩
theorem sized_eq (s:ByteArray) (i:Nat) (hs:s.size≤20000) (hi:i≤s.size):ber_sized.f s (i:Int)=some (szR i (szd ((B s).drop i))):=by
 unfold ber_sized.f
 cases hd:(B s).drop i with
 |nil=>
  have:=drop_nil hd
  rw[if_pos (by omega)]
  rfl
 |cons c l=>
  obtain⟨h1,h2,h3⟩:=drop_cons hd
  have hc:=c.toNat_lt
  have hll:l.length=s.size - (i+1):=by rw[← h3,List.length_drop,len_B]
  rw[if_neg (by omega),if_pos (by omega),if_pos (by omega),h2,w64 (c.toNat:Int) (by omega),w64 ((i:Int)+1) (by omega)]
  rw[szd]
  by_cases c1:c.toNat<128
  ·rw[if_pos (by omega),if_pos c1]
   rfl
  ·rw[if_neg (by omega),if_neg c1,w64 ((c.toNat:Int) - 128) (by omega)]
   by_cases c2:c.toNat<129
   ·rw[if_pos (by omega),if_pos c2]
    rfl
   ·rw[if_neg (by omega),if_neg c2]
    by_cases c3:c.toNat>130
    ·rw[if_pos (by omega),if_pos c3]
     rfl
    ·rw[if_neg (by omega),if_neg c3,w64 ((s.size:Int) - ((i:Int)+1)) (by omega)]
     by_cases c4:c.toNat - 128>l.length
     ·rw[if_pos (by omega),if_pos c4]
      rfl
     ·rw[if_neg (by omega),if_neg c4,if_pos (by omega),if_pos (by omega)]
      cases l with
      |nil=>simp at c4;omega
      |cons a l=>
       obtain⟨g1,g2,g3⟩:=drop_cons h3
       have ha:=a.toNat_lt
       have g2':bt s ((i:Int)+1)=(a.toNat:Int):=g2
       rw[g2',List.getD_cons_zero]
       by_cases c5:c.toNat=130
       ·rw[if_pos (by omega),if_pos c5]
        cases l with
        |nil=>simp at c4;omega
        |cons b l=>
         obtain⟨k1,k2,k3⟩:=drop_cons g3
         have hb:=b.toNat_lt
         rw[w64 ((i:Int)+1+1) (by omega),if_pos (by omega),if_pos (by omega)]
         have k2':bt s ((i:Int)+1+1)=(b.toNat:Int):=k2
         rw[k2',two_bytes,List.getD_cons_succ,List.getD_cons_zero]
         obtain⟨t,e1,e2⟩:=length_len (a.toNat*256+b.toNat) (by omega)
         rw[e1,w64 (1+((c.toNat:Int) - 128)) (by omega)]
         simp only[Option.bind_some]
         by_cases c6:(lenB (a.toNat*256+b.toNat)).length=3
         ·rw[if_pos (by omega),if_pos c6,w64 _ (by omega)]
          simp only[szR]
          rw[show(i:Int)+1+((c.toNat:Int) - 128)=((i+3:Nat):Int) by omega]
         ·rw[if_neg (by omega),if_neg c6]
          rfl
       ·rw[if_neg (by omega),if_neg c5,w64 (a.toNat:Int) (by omega)]
        obtain⟨t,e1,e2⟩:=length_len a.toNat (by omega)
        rw[e1,w64 (1+((c.toNat:Int) - 128)) (by omega)]
        simp only[Option.bind_some]
        by_cases c6:(lenB a.toNat).length=2
        ·rw[if_pos (by omega),if_pos c6,w64 _ (by omega)]
         simp only[szR]
         rw[show(i:Int)+1+((c.toNat:Int) - 128)=((i+2:Nat):Int) by omega]
        ·rw[if_neg (by omega),if_neg c6]
         rfl
theorem u8_self (c:UInt8):UInt8.ofNat c.toNat=c:=by simp
theorem szd_ok {l:List UInt8} {n h:Nat} (e:szd l=.ok (n,h)):l.take h=lenB n∧h≤l.length∧1≤h∧n≤65535:=by
 cases l with
 |nil=>cases e
 |cons c l=>
  have hc:=c.toNat_lt
  rw[szd] at e
  by_cases c1:c.toNat<128
  ·rw[if_pos c1] at e
   injection e with e
   injection e with e1 e2
   subst e1 e2
   exact⟨by simp[lenB,c1],by simp,by omega,by omega⟩
  ·rw[if_neg c1] at e
   by_cases c2:c.toNat<129
   ·rw[if_pos c2] at e;cases e
   ·rw[if_neg c2] at e
    by_cases c3:c.toNat>130
    ·rw[if_pos c3] at e;cases e
    ·rw[if_neg c3] at e
     by_cases c4:c.toNat - 128>l.length
     ·rw[if_pos c4] at e;cases e
     ·rw[if_neg c4] at e
      cases l with
      |nil=>simp at c4;omega
      |cons a l=>
       have ha:=a.toNat_lt
       rw[List.getD_cons_zero] at e
       by_cases c5:c.toNat=130
       ·rw[if_pos c5] at e
        cases l with
        |nil=>simp at c4;omega
        |cons b l=>
         have hb:=b.toNat_lt
         rw[List.getD_cons_succ,List.getD_cons_zero] at e
         by_cases c6:(lenB (a.toNat*256+b.toNat)).length=3
         ·rw[if_pos c6] at e
          injection e with e
          injection e with e1 e2
          subst e1 e2
          rw[lenB_len] at c6
          have d1: ¬ a.toNat*256+b.toNat<128:=by intro h;rw[if_pos h] at c6;omega
          have d2: ¬ a.toNat*256+b.toNat<256:=by intro h;rw[if_neg d1,if_pos h] at c6;omega
          refine⟨?_,by simp,by omega,by omega⟩
          simp only[lenB,if_neg d1,if_neg d2,List.take_succ_cons,List.take_zero]
          have q1:(a.toNat*256+b.toNat) / 256=a.toNat:=by omega
          have q2:UInt8.ofNat (a.toNat*256+b.toNat)=b:=by
           rw[← u8_mod,show(a.toNat*256+b.toNat) % 256=b.toNat by omega,u8_self]
          rw[q1,q2,u8_self]
          congr 1
          rw[← u8_self c,c5]
          rfl
         ·rw[if_neg c6] at e;cases e
       ·rw[if_neg c5] at e
        by_cases c6:(lenB a.toNat).length=2
        ·rw[if_pos c6] at e
         injection e with e
         injection e with e1 e2
         subst e1 e2
         rw[lenB_len] at c6
         have d1: ¬ a.toNat<128:=by intro h;rw[if_pos h] at c6;omega
         refine⟨?_,by simp,by omega,by omega⟩
         simp only[lenB,if_neg d1,if_pos ha,List.take_succ_cons,List.take_zero,u8_self]
         congr 1
         rw[← u8_self c,show c.toNat=129 by omega]
         rfl
        ·rw[if_neg c6] at e;cases e
theorem szd_lenB (n:Nat) (r:List UInt8) (h:n≤65535):szd (lenB n++r)=.ok (n,(lenB n).length):=by
 rw[lenB_len]
 by_cases h1:n<128
 ·have:(UInt8.ofNat n).toNat=n:=by simp;omega
  simp only[lenB,if_pos h1,List.cons_append,szd,this]
 ·by_cases h2:n<256
  ·have q:(UInt8.ofNat n).toNat=n:=by simp;omega
   have q1:(129:UInt8).toNat=129:=rfl
   have q2:(lenB n).length=2:=by rw[lenB_len,if_neg h1,if_pos h2]
   simp only[if_neg h1,if_pos h2]
   unfold lenB
   rw[if_neg h1,if_pos h2]
   simp only[List.cons_append,List.nil_append,szd,q1,List.getD_cons_zero,q,q2]
   simp
  ·have q:(UInt8.ofNat n).toNat=n % 256:=by simp
   have q0:(UInt8.ofNat (n / 256)).toNat=n / 256:=by simp;omega
   have q1:(130:UInt8).toNat=130:=rfl
   have q3:n / 256*256+n % 256=n:=by omega
   have q2:(lenB n).length=3:=by rw[lenB_len,if_neg h1,if_neg h2]
   simp only[if_neg h1,if_neg h2]
   unfold lenB
   rw[if_neg h1,if_neg h2]
   simp only[List.cons_append,List.nil_append,szd,q1,List.getD_cons_zero,List.getD_cons_succ,q,q0,q3,q2]
   simp
/-! ### elements -/
def sv (f:List UInt8→Except Int (S57 × Nat)):Nat→List UInt8→Except Int (List S57)
 |_,[]=>.ok []
 |0,_::_=>.error 0
 |j+1,a::l=>match f (a::l) with
  |.error x=>.error x
  |.ok (e,c)=>match sv f j ((a::l).drop c) with
   |.error x=>.error x
   |.ok es=>.ok (e::es)
def tk:Nat→List UInt8→Except Int (S57 × Nat)
 |0,_=>.error 0
 |_+1,[]=>.error 150
 |n+1,t::l=>
  if t.toNat % 32=31 then .error 151
  else match szd l with
   |.error x=>.error x
   |.ok (m,h)=>
    if m>l.length - h then .error 150
    else if 1+h+m>4000 then .error 3
    else if t.toNat / 32 % 2=0 then .ok (⟨((t.toNat / 64:Nat):Int),false,((t.toNat % 32:Nat):Int),A8 ((l.drop h).take m),[]⟩,1+h+m)
    else if n=0∧0<m then .error 153
    else match sv (tk n) ((l.drop h).take m).length ((l.drop h).take m) with
     |.error x=>.error x
     |.ok es=>.ok (⟨((t.toNat / 64:Nat):Int),true,((t.toNat % 32:Nat):Int),⟨#[]⟩,es⟩,1+h+m)
theorem tag_t (t:UInt8) (e:S57) (h0:e.f0=((t.toNat / 64:Nat):Int)) (h2:e.f2=((t.toNat % 32:Nat):Int)) (h1:e.f1=decide (t.toNat / 32 % 2≠0)):UInt8.ofNat (tag e)=t:=by
 have ht:=t.toNat_lt
 have:tag e=t.toNat:=by
  unfold tag
  rw[h0,h2,h1]
  by_cases hb:t.toNat / 32 % 2=0
  ·simp only[hb,ne_eq,not_true_eq_false,decide_false,Bool.false_eq_true,if_false]
   omega
  ·simp only[hb,ne_eq,not_false_eq_true,decide_true,if_true]
   omega
 rw[this,u8_self]
theorem okL_t (t:UInt8) (hn:t.toNat % 32≠31) (e:S57) (h0:e.f0=((t.toNat / 64:Nat):Int)) (h2:e.f2=((t.toNat % 32:Nat):Int)) (h1:if e.f1 then e.f3.size=0 else e.f4.length=0):okL e=true:=by
 have ht:=t.toNat_lt
 unfold okL
 simp only[Bool.and_eq_true,decide_eq_true_eq]
 refine⟨⟨⟨⟨by omega,by omega⟩,by omega⟩,by omega⟩,?_⟩
 cases hm:e.f1
 ·rw[hm] at h1
  simpa using h1
 ·rw[hm] at h1
  simpa using h1
theorem take_split (l:List UInt8) (h m:Nat) (h2:m≤l.length - h) (h3:h≤l.length):l.take (h+m)=l.take h++(l.drop h).take m:=by
 rw[List.take_add]
theorem sv_sound {n:Nat} (hf:∀ l e c,tk n l=.ok (e,c)→c≤l.length∧2≤c∧c≤4000∧san n e=true∧lay n e=l.take c):∀ (j:Nat) (l:List UInt8) (es:List S57),sv (tk n) j l=.ok es→es.flatMap (lay n)=l∧∀ y ∈ es,san n y=true
 |_,[],es,h=>by
  have:es=[]:=by
   rw[sv] at h
   injection h with h
   exact h.symm
  subst this
  exact⟨rfl,by simp⟩
 |0,a::l,es,h=>by simp[sv] at h
 |j+1,a::l,es,h=>by
  rw[sv] at h
  cases hk:tk n (a::l) with
  |error x=>rw[hk] at h;cases h
  |ok p=>
   obtain⟨e,c⟩:=p
   obtain⟨h1,h2,h3,h4,h5⟩:=hf _ _ _ hk
   rw[hk] at h
   simp only at h
   cases hs:sv (tk n) j ((a::l).drop c) with
   |error x=>rw[hs] at h;cases h
   |ok es'=>
    rw[hs] at h
    injection h with h
    subst h
    obtain⟨i1,i2⟩:=sv_sound hf j _ _ hs
    refine⟨by rw[List.flatMap_cons,i1,h5,List.take_append_drop],fun y hy=>?_⟩
    rcases List.mem_cons.1 hy with rfl|hy
    ·exact h4
    ·exact i2 y hy
theorem tk_sound:∀ (n:Nat) (l:List UInt8) (e:S57) (c:Nat),tk n l=.ok (e,c)→c≤l.length∧2≤c∧c≤4000∧san n e=true∧lay n e=l.take c
 |0,l,e,c,h=>by simp[tk] at h
 |n+1,[],e,c,h=>by simp[tk] at h
 |n+1,t::l,e,c,h=>by
  have ht:=t.toNat_lt
  rw[tk] at h
  by_cases c1:t.toNat % 32=31
  ·rw[if_pos c1] at h;cases h
  ·rw[if_neg c1] at h
   cases hz:szd l with
   |error x=>rw[hz] at h;cases h
   |ok p=>
    obtain⟨m,hh⟩:=p
    obtain⟨z1,z2,z3,z4⟩:=szd_ok hz
    rw[hz] at h
    simp only at h
    by_cases c2:m>l.length - hh
    ·rw[if_pos c2] at h;cases h
    ·rw[if_neg c2] at h
     by_cases c3:1+hh+m>4000
     ·rw[if_pos c3] at h;cases h
     ·rw[if_neg c3] at h
      have hbl:((l.drop hh).take m).length=m:=by rw[List.length_take,List.length_drop];omega
      have hsp:=take_split l hh m (by omega) z2
      by_cases c4:t.toNat / 32 % 2=0
      ·rw[if_pos c4] at h
       injection h with h
       injection h with h1 h2
       subst h1 h2
       refine⟨by simp;omega,by omega,by omega,?_,?_⟩
       ·simp only[san,List.all_nil,Bool.and_true]
        exact okL_t t c1 _ rfl rfl (by simp)
       ·rw[lay_plain _ _ rfl,size_A8,B_A8,hbl]
        unfold hb
        rw[tag_t t _ rfl rfl (by simp[c4]),← z1,show 1+hh+m=(hh+m)+1 by omega,List.take_succ_cons,hsp]
        rfl
      ·rw[if_neg c4] at h
       by_cases c5:n=0∧0<m
       ·rw[if_pos c5] at h;cases h
       ·rw[if_neg c5] at h
        cases hs:sv (tk n) ((l.drop hh).take m).length ((l.drop hh).take m) with
        |error x=>rw[hs] at h;cases h
        |ok es=>
         rw[hs] at h
         injection h with h
         injection h with h1 h2
         subst h1 h2
         obtain⟨i1,i2⟩:=sv_sound (tk_sound n) _ _ _ hs
         refine⟨by simp;omega,by omega,by omega,?_,?_⟩
         ·simp only[san,Bool.and_eq_true,List.all_eq_true]
          exact⟨okL_t t c1 _ rfl rfl (by simp;rfl),i2⟩
         ·rw[lay_made _ _ rfl]
          simp only[i1,hbl]
          unfold hb
          rw[tag_t t _ rfl rfl (by simp[c4]),← z1,show 1+hh+m=(hh+m)+1 by omega,List.take_succ_cons,hsp]
          rfl
theorem lay_two (n:Nat) (e:S57) (h:san n e=true):2≤(lay n e).length:=by
 cases n with
 |zero=>simp[san] at h
 |succ n=>
  simp only[lay,List.length_append]
  have key:∀ t m,2≤(hb t m).length:=by
   intro t m
   rw[hb_len]
   split
   ·omega
   ·split <;>omega
  have:=key (tag e) (if e.f1 then(e.f4.flatMap (lay n)).length else e.f3.size)
  omega
/-- With fuel enough. -/
theorem sv_fuel {n:Nat}:∀ (L:Nat) (l:List UInt8),l.length≤L→∀ j,l.length≤j→sv (tk n) j l=sv (tk n) l.length l
 |_,[],_,j,_=>by simp[sv]
 |0,a::l,h,j,_=>by simp at h
 |L+1,a::l,h,0,hj=>by simp at hj
 |L+1,a::l,h,j+1,hj=>by
  simp only[List.length_cons] at h hj ⊢
  simp only[sv]
  cases hk:tk n (a::l) with
  |error x=>rfl
  |ok p=>
   obtain⟨e,c⟩:=p
   obtain⟨h1,h2,h3,h4,h5⟩:=tk_sound n _ _ _ hk
   simp only
   have hd:((a::l).drop c).length≤l.length:=by rw[List.length_drop,List.length_cons];omega
   rw[sv_fuel L _ (by omega) j (by omega),sv_fuel L _ (by omega) l.length hd]
theorem sv_step {n:Nat} {l:List UInt8} {e:S57} {c:Nat} (h:tk n l=.ok (e,c)):sv (tk n) l.length l=(match sv (tk n) (l.drop c).length (l.drop c) with|.error x=>.error x|.ok es=>.ok (e::es)):=by
 obtain⟨h1,h2,h3,h4,h5⟩:=tk_sound n _ _ _ h
 cases l with
 |nil=>simp at h1;omega
 |cons a l=>
  have hd:((a::l).drop c).length≤l.length:=by rw[List.length_drop,List.length_cons];omega
  rw[← sv_fuel _ _ (Nat.le_refl _) l.length hd]
  simp only[List.length_cons,sv,h]
theorem sv_err {n:Nat} {l:List UInt8} {x:Int} (hne:l≠[]) (h:tk n l=.error x):sv (tk n) l.length l=.error x:=by
 cases l with
 |nil=>exact absurd rfl hne
 |cons a l=>simp only[List.length_cons,sv,h]
theorem zero_size {s:ByteArray} (h:s.size=0):s=⟨#[]⟩:=by
 apply B_inj
 have:(B s).length=0:=by rw[len_B,h]
 rw[List.eq_nil_of_length_eq_zero this]
 rfl
theorem tk_back:∀ (n:Nat) (e:S57) (r:List UInt8),san n e=true→(lay n e).length≤4000→tk n (lay n e++r)=.ok (e,(lay n e).length)
 |0,e,r,h,_=>by simp[san] at h
 |n+1,e,r,h,hl=>by
  simp only[san,Bool.and_eq_true,List.all_eq_true] at h
  obtain⟨hok,hkids⟩:=h
  have hok':=hok
  simp only[okL,Bool.and_eq_true,decide_eq_true_eq] at hok
  obtain⟨⟨⟨⟨k0,k1⟩,k2⟩,k3⟩,k4⟩:=hok
  have htag:(UInt8.ofNat (tag e)).toNat=tag e:=by
   unfold tag
   simp only[UInt8.toNat_ofNat']
   split <;>omega
  have t1:tag e % 32≠31:=by unfold tag;split <;>omega
  have t2:((tag e / 64:Nat):Int)=e.f0:=by unfold tag;split <;>omega
  have t3:((tag e % 32:Nat):Int)=e.f2:=by unfold tag;split <;>omega
  cases hm:e.f1
  ·rw[hm] at k4
   simp only[Bool.false_eq_true,if_false,decide_eq_true_eq] at k4
   have t4:tag e / 32 % 2=0:=by unfold tag;rw[hm];simp;omega
   rw[lay_plain n e hm] at hl ⊢
   simp only[List.length_append,len_B,hb,List.length_cons] at hl ⊢
   simp only[List.cons_append,List.append_assoc,tk,htag,if_neg t1]
   rw[szd_lenB _ _ (by omega)]
   have d1: ¬ e.f3.size>(lenB e.f3.size++(B e.f3++r)).length - (lenB e.f3.size).length:=by simp[len_B]
   have d2: ¬ 1+(lenB e.f3.size).length+e.f3.size>4000:=by omega
   have d3:List.take e.f3.size (List.drop (lenB e.f3.size).length (lenB e.f3.size++(B e.f3++r)))=B e.f3:=by
    rw[List.drop_left,List.take_append_of_le_length (by rw[len_B];exact Nat.le_refl _),← len_B,List.take_length]
   simp only[if_neg d1,if_neg d2,if_pos t4,d3,A8_B,t2,t3]
   have he4:e.f4=[]:=List.eq_nil_of_length_eq_zero k4
   have:(⟨e.f0,false,e.f2,e.f3,[]⟩:S57)=e:=by
    obtain⟨a0,a1,a2,a3,a4⟩:=e
    simp only at hm he4
    subst hm he4
    rfl
   rw[this]
   congr 2
   omega
  ·rw[hm] at k4
   simp only[if_true,decide_eq_true_eq] at k4
   have t4: ¬ tag e / 32 % 2=0:=by unfold tag;rw[hm];simp;omega
   rw[lay_made n e hm] at hl ⊢
   simp only[List.length_append,hb,List.length_cons] at hl ⊢
   have hkl:∀ (l:List S57),(∀ y ∈ l,y ∈ e.f4)→((l.flatMap (lay n)).length≤4000)→sv (tk n) (l.flatMap (lay n)).length (l.flatMap (lay n))=.ok l:=by
    intro l
    induction l with
    |nil=>intro _ _;simp[sv]
    |cons y l ih=>
     intro hsub h4
     have hy:=hsub y (by simp)
     rw[List.flatMap_cons,List.length_append] at h4
     have hb:=tk_back n y (l.flatMap (lay n)) (hkids y hy) (by omega)
     rw[List.flatMap_cons,sv_step hb,List.drop_left,ih (fun z hz=>hsub z (by simp[hz])) (by omega)]
   simp only[List.cons_append,List.append_assoc,tk,htag,if_neg t1]
   rw[szd_lenB _ _ (by omega)]
   have d1: ¬ (e.f4.flatMap (lay n)).length>(lenB (e.f4.flatMap (lay n)).length++(e.f4.flatMap (lay n)++r)).length - (lenB (e.f4.flatMap (lay n)).length).length:=by simp
   have d2: ¬ 1+(lenB (e.f4.flatMap (lay n)).length).length+(e.f4.flatMap (lay n)).length>4000:=by omega
   have d3:List.take (e.f4.flatMap (lay n)).length (List.drop (lenB (e.f4.flatMap (lay n)).length).length (lenB (e.f4.flatMap (lay n)).length++(e.f4.flatMap (lay n)++r)))=e.f4.flatMap (lay n):=by
    rw[List.drop_left,List.take_append_of_le_length (Nat.le_refl _),List.take_length]
   have d4: ¬ (n=0∧0<(e.f4.flatMap (lay n)).length):=by
    rintro⟨rfl,hp⟩
    cases h4:e.f4 with
    |nil=>rw[h4] at hp;simp at hp
    |cons y l=>
     have:=hkids y (by rw[h4];simp)
     simp[san] at this
   simp only[if_neg d1,if_neg d2,if_neg t4,if_neg d4,d3,t2,t3]
   rw[hkl e.f4 (fun _ h=>h) (by omega)]
   have:(⟨e.f0,true,e.f2,⟨#[]⟩,e.f4⟩:S57)=e:=by
    have he3:=zero_size k4
    obtain⟨a0,a1,a2,a3,a4⟩:=e
    simp only at hm he3
    subst hm he3
    rfl
   simp only
   rw[this]
   congr 2
   omega
theorem W_of_lay:∀ (n:Nat) (e:S57),san n e=true→(lay n e).length≤4000→W e
 |0,e,h,_=>by simp[san] at h
 |n+1,e,h,hl=>by
  simp only[san,Bool.and_eq_true,List.all_eq_true] at h
  obtain⟨hok,hkids⟩:=h
  simp only[okL,Bool.and_eq_true,decide_eq_true_eq] at hok
  obtain⟨_,k4⟩:=hok
  cases hm:e.f1
  ·rw[hm] at k4
   simp only[Bool.false_eq_true,if_false,decide_eq_true_eq] at k4
   rw[lay_plain n e hm,List.length_append,len_B] at hl
   exact .mk e (by omega) (by omega) (fun y hy=>by rw[List.eq_nil_of_length_eq_zero k4] at hy;cases hy)
  ·rw[hm] at k4
   simp only[if_true,decide_eq_true_eq] at k4
   rw[lay_made n e hm,List.length_append] at hl
   have key:∀ l:List S57,(∀ y ∈ l,y ∈ e.f4)→l.length≤(l.flatMap (lay n)).length∧∀ y ∈ l,(lay n y).length≤(l.flatMap (lay n)).length:=by
    intro l
    induction l with
    |nil=>intro _;simp
    |cons y l ih=>
     intro hsub
     obtain⟨i1,i2⟩:=ih (fun z hz=>hsub z (by simp[hz]))
     have:=lay_two n y (hkids y (hsub y (by simp)))
     rw[List.flatMap_cons,List.length_append,List.length_cons]
     refine⟨by omega,fun z hz=>?_⟩
     rcases List.mem_cons.1 hz with rfl|hz
     ·omega
     ·have:=i2 z hz
      omega
   obtain⟨j1,j2⟩:=key e.f4 (fun _ h=>h)
   exact .mk e (by omega) (by omega) (fun y hy=>W_of_lay n y (hkids y hy) (by have:=j2 y hy;omega))
end Go.Proofs.Ytdjkemhmhkpmkaa.PbA
