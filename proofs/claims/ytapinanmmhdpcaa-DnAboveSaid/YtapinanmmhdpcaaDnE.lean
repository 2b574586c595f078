import Derived.Test.YtapinanmmhdpcaaDnD
import Derived.Test.YtapinanmmhdpcaaGAF12
/- Plain laws of names: names are written, by the program and by the document. -/
namespace Go.Proofs.Ytapinanmmhdpcaa.DnA
open Go Go.RowKit Go.Proofs.Ytapinanmmhdpcaa.GA Go.Proofs.Ytapinanmmhdpcaa.PuE Go.Proofs.Ytapinanmmhdpcaa.DnL Go.Proofs.YtapinanmmhdpcaaW.PrintWords Go.Proofs.YtapinanmmhdpcaaW.PrintLast Go.Proofs.YtapinanmmhdpcaaW.PrintMore
set_option linter.unusedVariables false
set_option linter.unusedSimpArgs false
/-! ### a value is written -/
abbrev HEX:ByteArray:=(⟨#[48,49,50,51,52,53,54,55,56,57,97,98,99,100,101,102]⟩:ByteArray)
theorem ctlA (c:UInt8):0≤(c.toNat:Int) / 16∧(c.toNat:Int) / 16≤((c.toNat:Int) / 16+1) % 256∧((c.toNat:Int) / 16+1) % 256≤16∧HEX.extract ((c.toNat:Int) / 16).toNat (((c.toNat:Int) / 16+1) % 256).toNat=A8 [hexd (c / 16)]:=by
 have key:∀ c:UInt8,0≤(c.toNat:Int) / 16∧(c.toNat:Int) / 16≤((c.toNat:Int) / 16+1) % 256∧((c.toNat:Int) / 16+1) % 256≤16∧HEX.extract ((c.toNat:Int) / 16).toNat (((c.toNat:Int) / 16+1) % 256).toNat=A8 [hexd (c / 16)]:=all8 (by decide+kernel)
 exact key c
theorem ctlB (c:UInt8):0≤Go.bits .and .u8 (c.toNat:Int) 15∧Go.bits .and .u8 (c.toNat:Int) 15≤(Go.bits .and .u8 (c.toNat:Int) 15+1) % 256∧(Go.bits .and .u8 (c.toNat:Int) 15+1) % 256≤16∧HEX.extract (Go.bits .and .u8 (c.toNat:Int) 15).toNat ((Go.bits .and .u8 (c.toNat:Int) 15+1) % 256).toNat=A8 [hexd (c % 16)]:=by
 have key:∀ c:UInt8,0≤Go.bits .and .u8 (c.toNat:Int) 15∧Go.bits .and .u8 (c.toNat:Int) 15≤(Go.bits .and .u8 (c.toNat:Int) 15+1) % 256∧(Go.bits .and .u8 (c.toNat:Int) 15+1) % 256≤16∧HEX.extract (Go.bits .and .u8 (c.toNat:Int) 15).toNat ((Go.bits .and .u8 (c.toNat:Int) 15+1) % 256).toNat=A8 [hexd (c % 16)]:=all8 (by decide+kernel)
 exact key c
theorem ctlR (c:UInt8):toponymref18_hex.f ((Int.tdiv (c.toNat:Int) 16) % 256)=some ((hexd (c / 16)).toNat:Int)∧toponymref18_hex.f (Int.tmod (c.toNat:Int) 16)=some ((hexd (c % 16)).toNat:Int):=by
 have key:∀ c:UInt8,toponymref18_hex.f ((Int.tdiv (c.toNat:Int) 16) % 256)=some ((hexd (c / 16)).toNat:Int)∧toponymref18_hex.f (Int.tmod (c.toNat:Int) 16)=some ((hexd (c % 16)).toNat:Int):=all8 (by decide+kernel)
 exact key c
theorem ctlN (c:UInt8) (h:c<32∨c=127):sgn c=false∧ ¬ c=32∧ ¬ c=35:=by
 have key:∀ c:UInt8,c<32∨c=127→sgn c=false∧ ¬ c=32∧ ¬ c=35:=all8 (by decide+kernel)
 exact key c h
theorem lt32 (c:UInt8):c<32↔(c.toNat:Int)<32:=by
 rw[UInt8.lt_iff_toNat_lt,show(32:UInt8).toNat=32 from rfl]
 omega
theorem bn_app (a b:Bs):bn (a++b)=bn a++bn b:=nums_app a b
theorem A92:(⟨#[92]⟩:ByteArray)=A8 [92]:=rfl
theorem esc_len (f l:Bool) (c:UInt8):(esc f l c).length≤3:=by
 unfold esc
 split
 ·simp
 ·split <;>simp
theorem val_step (s:ByteArray) (hs:s.size≤1000000) {p r acc:Bs} {c:UInt8} (h:B s=p++c::r) (ha:acc.length≤3*p.length) (k:Nat):dn_value.l0 (k+1) (p.length:Int) (bn acc) s=dn_value.l0 k ((p++[c]).length:Int) (bn (acc++esc p.isEmpty r.isEmpty c)) s:=by
 have hz:=sz h
 simp only[List.length_cons] at hz
 have hw1:Veil (wrap64 ((p.length:Int)+1)=((p++[c]).length:Int)):=⟨nx1 p c (by omega)⟩
 have hws:Veil (wrap64 ((s.size:Int) - 1)=(s.size:Int) - 1):=⟨w64 _ (by omega)⟩
 have i32:(c.toNat:Int)=32↔c=32:=c44 c 32 (by decide)
 have i35:(c.toNat:Int)=35↔c=35:=c44 c 35 (by decide)
 have i127:(c.toNat:Int)=127↔c=127:=c44 c 127 (by decide)
 have ip:(p.length:Int)=0↔p.isEmpty=true:=by cases p <;>simp;omega
 have ir:(p.length:Int)=(s.size:Int) - 1↔r.isEmpty=true:=by
  rw[hz]
  cases r <;>simp <;>omega
 have hE:(if (c.toNat:Int)=32 then(if (p.length:Int)=0 then(some (true)) else(if (p.length:Int)=(wrap64 ((s.size:Int) - 1)) then(some (true)) else(if (c.toNat:Int)=35 then(some (false)) else(some (false))))) else(if (c.toNat:Int)=35 then(some (((p.length:Int)==0))) else(some (false))))=some ((c==32 && (p.isEmpty || r.isEmpty)) || (c==35 && p.isEmpty)):=by
  rw[hws.out]
  by_cases e32:c=32
  ·rw[if_pos (i32.2 e32)]
   subst e32
   cases hp:p.isEmpty with
   |true=>rw[if_pos (ip.2 hp)];rfl
   |false=>
    rw[if_neg (fun q=>by rw[ip.1 q] at hp;cases hp)]
    cases hr:r.isEmpty with
    |true=>rw[if_pos (ir.2 hr)];rfl
    |false=>
     rw[if_neg (fun q=>by rw[ir.1 q] at hr;cases hr)]
     rfl
  ·rw[if_neg (fun q=>e32 (i32.1 q))]
   by_cases e35:c=35
   ·rw[if_pos (i35.2 e35)]
    subst e35
    cases hp:p.isEmpty with
    |true=>rw[ip.2 hp];rfl
    |false=>
     have:((p.length:Int)==0)=false:=by
      rw[beq_eq_false_iff_ne]
      exact fun q=>by rw[ip.1 q] at hp;cases hp
     rw[this];rfl
   ·rw[if_neg (fun q=>e35 (i35.1 q))]
    simp[e32,e35]
 have hpc:((p++[c]).length:Int)=(p.length:Int)+1:=by simp
 have hy:s.extract ((p.length:Int)).toNat (((p++[c]).length:Int)).toNat=A8 [c]:=B_inj (by rw[B_A8];exact cutM (p:=p) (m:=[c]) (r:=r) (by rw[h];simp) _ _ rfl (by simp))
 have l1:acc.length<140737488355320:=by omega
 rw[dn_value.l0,if_pos (lt_mid h),if_pos (Int.natCast_nonneg p.length),bt_mid h,hE,Option.bind_some,special_eq,Option.bind_some,hw1.out]
 have push2:(if (p.length:Int)≤((p++[c]).length:Int) then(if ((p++[c]).length:Int)≤(s.size:Int) then((some (s.extract ((p.length:Int)).toNat (((p++[c]).length:Int)).toNat)).bind fun y59=>(if 1+y59.size≤9223372036854775807 then(if (bn acc).length+((⟨#[92]⟩:ByteArray)++y59).size<140737488355328 then((some (bn acc++MB.numsOf ((⟨#[92]⟩:ByteArray)++y59):List Int)).bind fun y70=>((dn_value.l0 k ((p++[c]).length:Int) y70 s))) else(none)) else(none))) else(none)) else(none))=dn_value.l0 k ((p++[c]).length:Int) (bn (acc++[92,c])) s:=by
  rw[if_pos (by omega),if_pos (by omega),hy,Option.bind_some,size_A8,if_pos (by simp),A92,A8_app,size_A8,len_nums,if_pos (by simp;omega),numsOf_A8,← bn_app,Option.bind_some]
  rfl
 have push3:(if 0≤((c.toNat:Int) / 16) then(if ((c.toNat:Int) / 16)≤((((c.toNat:Int) / 16)+1) % 256) then(if ((((c.toNat:Int) / 16)+1) % 256)≤16 then((some (HEX.extract ((c.toNat:Int) / 16).toNat ((((c.toNat:Int) / 16)+1) % 256).toNat)).bind fun y128=>(if 1+y128.size≤9223372036854775807 then(if 0≤(Go.bits .and .u8 (c.toNat:Int) 15) then(if (Go.bits .and .u8 (c.toNat:Int) 15)≤(((Go.bits .and .u8 (c.toNat:Int) 15)+1) % 256) then(if (((Go.bits .and .u8 (c.toNat:Int) 15)+1) % 256)≤16 then((some (HEX.extract (Go.bits .and .u8 (c.toNat:Int) 15).toNat (((Go.bits .and .u8 (c.toNat:Int) 15)+1) % 256).toNat)).bind fun y140=>(if ((⟨#[92]⟩:ByteArray)++y128).size+y140.size≤9223372036854775807 then(if (bn acc).length+(((⟨#[92]⟩:ByteArray)++y128)++y140).size<140737488355328 then((some (bn acc++MB.numsOf (((⟨#[92]⟩:ByteArray)++y128)++y140):List Int)).bind fun y157=>((dn_value.l0 k ((p++[c]).length:Int) y157 s))) else(none)) else(none))) else(none)) else(none)) else(none)) else(none))) else(none)) else(none)) else(none))=dn_value.l0 k ((p++[c]).length:Int) (bn (acc++[92,hexd (c / 16),hexd (c % 16)])) s:=by
  obtain⟨a1,a2,a3,a4⟩:=ctlA c
  obtain⟨b1,b2,b3,b4⟩:=ctlB c
  rw[if_pos a1,if_pos a2,if_pos a3,a4,Option.bind_some,size_A8,if_pos (by simp),if_pos b1,if_pos b2,if_pos b3,b4,Option.bind_some,A92,A8_app,size_A8,size_A8,if_pos (by simp),A8_app,size_A8,len_nums,if_pos (by simp;omega),numsOf_A8,← bn_app,Option.bind_some]
  rfl
 by_cases hc:c<32∨c=127
 ·obtain⟨g1,g2,g3⟩:=ctlN c hc
  have he:esc p.isEmpty r.isEmpty c=[92,hexd (c / 16),hexd (c % 16)]:=by unfold esc;rw[if_pos hc]
  have hb:((c==32 && (p.isEmpty || r.isEmpty)) || (c==35 && p.isEmpty))=false:=by simp[g2,g3]
  rw[he,g1,hb,if_neg (by simp),if_neg (by simp)]
  by_cases h32:(c.toNat:Int)<32
  ·rw[if_pos h32]
   exact push3
  ·rw[if_neg h32,if_pos (i127.2 (hc.resolve_left (fun q=>h32 ((lt32 c).1 q))))]
   exact push3
 ·have n32: ¬ (c.toNat:Int)<32:=fun q=>hc (.inl ((lt32 c).2 q))
  have n127: ¬ (c.toNat:Int)=127:=fun q=>hc (.inr (i127.1 q))
  by_cases hs1:sgn c=true
  ·have he:esc p.isEmpty r.isEmpty c=[92,c]:=by unfold esc;rw[if_neg hc,hs1];rfl
   rw[he,hs1,if_pos (rfl:true=true)]
   exact push2
  ·have hs0:sgn c=false:=by simpa using hs1
   rw[hs0,if_neg (by simp)]
   cases hb:((c==32 && (p.isEmpty || r.isEmpty)) || (c==35 && p.isEmpty)) with
   |true=>
    have he:esc p.isEmpty r.isEmpty c=[92,c]:=by unfold esc;rw[if_neg hc,hs0,Bool.false_or,hb];rfl
    rw[he,if_pos (rfl:true=true)]
    exact push2
   |false=>
    have he:esc p.isEmpty r.isEmpty c=[c]:=by unfold esc;rw[if_neg hc,hs0,Bool.false_or,hb];rfl
    rw[he,if_neg (by simp),if_neg n32,if_neg n127,len_nums,if_pos (by omega),Option.bind_some,bn_snoc]
theorem dval_l0 (s:ByteArray) (hs:s.size≤1000000):∀ (r p acc:Bs),B s=p++r→acc.length≤3*p.length→Evt (fun k=>dn_value.l0 k (p.length:Int) (bn acc) s) (A8 (acc++valL p.isEmpty r))
 |[],p,acc,h,ha=>by
  refine Evt.step (Evt.of_all fun k=>?_)
  rw[dn_value.l0,if_neg (nlt_end h),son_nums]
  simp[valL]
 |c::r,p,acc,h,ha=>by
  have hl:=esc_len p.isEmpty r.isEmpty c
  have ih:=dval_l0 s hs r (p++[c]) (acc++esc p.isEmpty r.isEmpty c) (by rw[h];simp) (by rw[List.length_append,List.length_append,List.length_singleton];omega)
  refine Evt.step (Evt.of_eq (ih.val ?_) fun k=>val_step s hs h ha k)
  have:(p++[c]).isEmpty=false:=by cases p <;>rfl
  simp[valL,this]
theorem dval_ev (s:ByteArray) (hs:s.size≤1000000):Evt (fun k=>dn_value.f k s) (A8 (valL true (B s))):=by
 have:=dval_l0 s hs (B s) [] [] (by simp) (by simp)
 exact Evt.of_eq (this.val (by simp)) fun k=>rfl
theorem rval_step (s:ByteArray) (hs:s.size≤1000000) {p r acc:Bs} {c:UInt8} (h:B s=p++c::r) (ha:acc.length≤3*p.length) (k:Nat):toponymref18_Value.l0 (k+1) (bn acc) (p.length:Int) s=toponymref18_Value.l0 k (bn (acc++esc p.isEmpty r.isEmpty c)) ((p++[c]).length:Int) s:=by
 have hz:=sz h
 simp only[List.length_cons] at hz
 have hw1:Veil (wrap64 ((p.length:Int)+1)=((p++[c]).length:Int)):=⟨nx1 p c (by omega)⟩
 have hws:Veil (wrap64 ((s.size:Int) - 1)=(s.size:Int) - 1):=⟨w64 _ (by omega)⟩
 have i32:(c.toNat:Int)=32↔c=32:=c44 c 32 (by decide)
 have i35:(c.toNat:Int)=35↔c=35:=c44 c 35 (by decide)
 have i127:(c.toNat:Int)=127↔c=127:=c44 c 127 (by decide)
 have ip:(p.length:Int)=0↔p.isEmpty=true:=by cases p <;>simp;omega
 have ir:(p.length:Int)=(s.size:Int) - 1↔r.isEmpty=true:=by
  rw[hz]
  cases r <;>simp <;>omega
 have l1:acc.length<140737488355320:=by omega
 obtain⟨x1,x2⟩:=ctlR c
 rw[toponymref18_Value.l0,if_pos (lt_mid h),if_pos (Int.natCast_nonneg p.length),bt_mid h,x1,x2,Option.bind_some,Option.bind_some,sign_eq,hw1.out,hws.out,len_nums]
 have push3:(if acc.length+([92,((hexd (c / 16)).toNat:Int),((hexd (c % 16)).toNat:Int)]:List Int).length<140737488355328 then((some (bn acc++([92,((hexd (c / 16)).toNat:Int),((hexd (c % 16)).toNat:Int)]:List Int):List Int)).bind fun y30=>((toponymref18_Value.l0 k y30 ((p++[c]).length:Int) s))) else(none))=toponymref18_Value.l0 k (bn (acc++[92,hexd (c / 16),hexd (c % 16)])) ((p++[c]).length:Int) s:=by
  rw[if_pos (by simp;omega),Option.bind_some,bn_app]
  rfl
 have push2:(if acc.length<140737488355328 then((some (bn acc++[92]:List Int)).bind fun y64=>(if y64.length<140737488355328 then((some (y64++[(c.toNat:Int)]:List Int)).bind fun y69=>((toponymref18_Value.l0 k y69 ((p++[c]).length:Int) s))) else(none))) else(none))=toponymref18_Value.l0 k (bn (acc++[92,c])) ((p++[c]).length:Int) s:=by
  rw[if_pos (by omega),Option.bind_some,if_pos (by rw[List.length_append,len_nums,List.length_singleton];omega),Option.bind_some,bn_app,List.append_assoc]
  rfl
 have push1:(if acc.length<140737488355328 then((some (bn acc++[(c.toNat:Int)]:List Int)).bind fun y110=>((toponymref18_Value.l0 k y110 ((p++[c]).length:Int) s))) else(none))=toponymref18_Value.l0 k (bn (acc++[c])) ((p++[c]).length:Int) s:=by
  rw[if_pos (by omega),Option.bind_some,bn_snoc]
 by_cases hc:c<32∨c=127
 ·have he:esc p.isEmpty r.isEmpty c=[92,hexd (c / 16),hexd (c % 16)]:=by unfold esc;rw[if_pos hc]
  rw[he]
  by_cases h32:(c.toNat:Int)<32
  ·rw[if_pos h32]
   exact push3
  ·rw[if_neg h32,if_pos (i127.2 (hc.resolve_left (fun q=>h32 ((lt32 c).1 q))))]
   exact push3
 ·have n32: ¬ (c.toNat:Int)<32:=fun q=>hc (.inl ((lt32 c).2 q))
  have n127: ¬ (c.toNat:Int)=127:=fun q=>hc (.inr (i127.1 q))
  rw[if_neg n32,if_neg n127]
  by_cases hs1:sgn c=true
  ·have he:esc p.isEmpty r.isEmpty c=[92,c]:=by unfold esc;rw[if_neg hc,hs1];rfl
   rw[he,hs1,Option.bind_some,if_pos (rfl:true=true)]
   exact push2
  ·have hs0:sgn c=false:=by simpa using hs1
   rw[hs0,Option.bind_some,if_neg (by simp)]
   by_cases e32:c=32
   ·rw[if_pos (i32.2 e32)]
    have n35: ¬ (c.toNat:Int)=35:=by rw[e32];decide
    cases hp:p.isEmpty with
    |true=>
     have he:esc true r.isEmpty c=[92,c]:=by unfold esc;rw[if_neg hc,hs0,e32];rfl
     rw[he,if_pos (ip.2 hp)]
     exact push2
    |false=>
     rw[if_neg (fun q=>by rw[ip.1 q] at hp;cases hp)]
     cases hr:r.isEmpty with
     |true=>
      have he:esc false true c=[92,c]:=by unfold esc;rw[if_neg hc,hs0,e32];rfl
      rw[he,if_pos (ir.2 hr)]
      exact push2
     |false=>
      have he:esc false false c=[c]:=by unfold esc;rw[if_neg hc,hs0,e32];rfl
      rw[he,if_neg (fun q=>by rw[ir.1 q] at hr;cases hr),if_neg n35]
      exact push1
   ·rw[if_neg (fun q=>e32 (i32.1 q))]
    by_cases e35:c=35
    ·rw[if_pos (i35.2 e35)]
     cases hp:p.isEmpty with
     |true=>
      have he:esc true r.isEmpty c=[92,c]:=by unfold esc;rw[if_neg hc,hs0,e35];rfl
      rw[he,if_pos (ip.2 hp)]
      exact push2
     |false=>
      have he:esc false r.isEmpty c=[c]:=by unfold esc;rw[if_neg hc,hs0,e35];rfl
      rw[he,if_neg (fun q=>by rw[ip.1 q] at hp;cases hp)]
      exact push1
    ·have he:esc p.isEmpty r.isEmpty c=[c]:=by
      unfold esc
      rw[if_neg hc,hs0]
      simp[e32,e35]
     rw[he,if_neg (fun q=>e35 (i35.1 q))]
     exact push1
theorem rvalw_l0 (s:ByteArray) (hs:s.size≤1000000):∀ (r p acc:Bs),B s=p++r→acc.length≤3*p.length→Evt (fun k=>toponymref18_Value.l0 k (bn acc) (p.length:Int) s) (A8 (acc++valL p.isEmpty r))
 |[],p,acc,h,ha=>by
  refine Evt.step (Evt.of_all fun k=>?_)
  rw[toponymref18_Value.l0,if_neg (nlt_end h),son_nums]
  simp[valL]
 |c::r,p,acc,h,ha=>by
  have hl:=esc_len p.isEmpty r.isEmpty c
  have ih:=rvalw_l0 s hs r (p++[c]) (acc++esc p.isEmpty r.isEmpty c) (by rw[h];simp) (by rw[List.length_append,List.length_append,List.length_singleton];omega)
  refine Evt.step (Evt.of_eq (ih.val ?_) fun k=>rval_step s hs h ha k)
  have:(p++[c]).isEmpty=false:=by cases p <;>rfl
  simp[valL,this]
theorem rvalw_ev (s:ByteArray) (hs:s.size≤1000000):Evt (fun k=>toponymref18_Value.f k s) (A8 (valL true (B s))):=by
 have:=rvalw_l0 s hs (B s) [] [] (by simp) (by simp)
 exact Evt.of_eq (this.val (by simp)) fun k=>rfl
/-! ### joined -/
theorem join_row:∀ r:List Pr,Lib.join (r.map pairT) [43]=rowT r
 |[]=>rfl
 |[p]=>by simp[Lib.join,List.intercalate,rowT]
 |p::q::r=>by
  have ih:=join_row (q::r)
  simp only[Lib.join,List.map_cons] at ih ⊢
  rw[rowT,← ih]
  simp[List.intercalate,List.intersperse]
theorem join_name:∀ l:List (List Pr),Lib.join (l.map rowT) [44]=nameT l
 |[]=>rfl
 |[p]=>by simp[Lib.join,List.intercalate,nameT]
 |p::q::r=>by
  have ih:=join_name (q::r)
  simp only[Lib.join,List.map_cons] at ih ⊢
  rw[nameT,← ih]
  simp[List.intercalate,List.intersperse]
theorem join_eq (l:List Bs) (c:UInt8) (t:Bs) (ht:Lib.join l [c]=t) (hl:l.length≤1000000) (h:t.length≤1000000):strings_Join.f (l.map A8) (A8 [c])=some (A8 t):=by
 have e1:(l.map A8).map (fun x:ByteArray=>x.data.toList)=l:=by
  rw[List.map_map]
  exact(List.map_congr_left (fun x _=>B_A8 x)).trans (List.map_id l)
 have e2:(A8 [c]).data.toList=[c]:=rfl
 unfold strings_Join.f
 rw[e1,e2,ht,if_pos ⟨by rw[List.length_map];omega,by omega⟩]
 rfl
theorem valL_len:∀ (f:Bool) (v:Bs),(valL f v).length≤3*v.length
 |_,[]=>by simp[valL]
 |f,c::t=>by
  have h1:=esc_len f t.isEmpty c
  have h2:=valL_len false t
  simp only[valL,List.length_append,List.length_cons]
  omega
theorem pairT_len {p:Pr} (h:okP p=true):(pairT p).length≤1300:=by
 simp only[okP,Bool.and_eq_true,decide_eq_true_eq] at h
 have h1:=(word_len h.1.1).2
 have h2:=valL_len true p.2
 simp only[pairT,List.length_append,List.length_cons]
 omega
theorem rowT_len2:∀ (r:List Pr),(∀ p ∈ r,okP p=true)→(rowT r).length≤1301*r.length
 |[],_=>by simp[rowT]
 |[p],h=>by
  have:=pairT_len (h p (by simp))
  simp only[rowT,List.length_singleton]
  omega
 |p::q::r,h=>by
  have h1:=pairT_len (h p (by simp))
  have h2:=rowT_len2 (q::r) (fun x hx=>h x (List.mem_cons_of_mem _ hx))
  simp only[rowT,List.length_append,List.length_cons] at h2 ⊢
  omega
theorem okR_all {r:List Pr} (h:okR r=true):(1≤r.length∧r.length≤3)∧∀ p ∈ r,okP p=true:=by
 simp only[okR,Bool.and_eq_true,List.all_eq_true,decide_eq_true_eq] at h
 exact h
theorem okN_all {l:List (List Pr)} (h:okN l=true):l.length≤6∧∀ r ∈ l,okR r=true:=by
 simp only[okN,Bool.and_eq_true,List.all_eq_true,decide_eq_true_eq] at h
 exact h
theorem rowT_len3 {r:List Pr} (h:okR r=true):(rowT r).length≤4000:=by
 obtain⟨h1,h2⟩:=okR_all h
 have:=rowT_len2 r h2
 omega
theorem nameT_len2:∀ (l:List (List Pr)),(∀ r ∈ l,okR r=true)→(nameT l).length≤4001*l.length
 |[],_=>by simp[nameT]
 |[p],h=>by
  have:=rowT_len3 (h p (by simp))
  simp only[nameT,List.length_singleton]
  omega
 |p::q::r,h=>by
  have h1:=rowT_len3 (h p (by simp))
  have h2:=nameT_len2 (q::r) (fun x hx=>h x (List.mem_cons_of_mem _ hx))
  simp only[nameT,List.length_append,List.length_cons] at h2 ⊢
  omega
theorem nameT_len {l:List (List Pr)} (h:okN l=true):(nameT l).length≤25000:=by
 obtain⟨h1,h2⟩:=okN_all h
 have:=nameT_len2 l h2
 omega
/-! ### a name is written -/
theorem A8_ofS (x:S53):A8 (ofS x).1=x.f0∧A8 (ofS x).2=x.f1:=⟨A8_B _,A8_B _⟩
theorem okP_sz {x:S53} (h:okP (ofS x)=true):x.f0.size≤16∧x.f1.size≤400:=by
 simp only[okP,Bool.and_eq_true,decide_eq_true_eq] at h
 have h1:=(word_len h.1.1).2
 have h2:=h.2
 simp only[ofS,len_B] at h1 h2
 exact⟨h1,h2⟩
theorem pair_text (x:S53):((x.f0++(⟨#[61]⟩:ByteArray))++A8 (valL true (B x.f1)))=A8 (pairT (ofS x)):=by
 conv=>lhs;rw[← A8_B x.f0,show(⟨#[61]⟩:ByteArray)=A8 [61] from rfl,A8_app,A8_app]
 simp[pairT,ofS]
theorem part_l0 (row:List S53) (hrow:row.length≤3∧∀ x ∈ row,okP (ofS x)=true):∀ (q p:List S53),row=p++q→Evt (fun k=>dn_part.l0 k ((p.map fun x=>pairT (ofS x)).map A8) (p.length:Int) row) (A8 (rowT (row.map ofS)))
 |[],p,h=>by
  refine Evt.step (Evt.of_all fun k=>?_)
  have hp:row=p:=by simpa using h
  subst hp
  have hj:=join_eq (row.map fun x=>pairT (ofS x)) 43 (rowT (row.map ofS)) (by rw[← join_row,List.map_map];rfl) (by simp;omega) (by
   have:=rowT_len2 (row.map ofS) (fun p hp=>by
    simp only[List.mem_map] at hp
    obtain⟨x,hx,rfl⟩:=hp
    exact hrow.2 x hx)
   simp only[List.length_map] at this
   omega)
  rw[dn_part.l0,if_neg (nltL h),show(⟨#[43]⟩:ByteArray)=A8 [43] from rfl,hj]
  rfl
 |x::q,p,h=>by
  have hx:=hrow.2 x (by rw[h];simp)
  obtain⟨z1,z2⟩:=okP_sz hx
  have hl:p.length≤3:=by have:=hrow.1;rw[h] at this;simp at this;omega
  have hn:=nxL p x (by omega)
  have ih:=part_l0 row hrow q (p++[x]) (by rw[h];simp)
  have hv:=dval_ev x.f1 (by omega)
  have hvl:=valL_len true (B x.f1)
  rw[len_B] at hvl
  refine Evt.step ?_
  have hst:∀ k,dn_part.l0 (k+1) ((p.map fun x=>pairT (ofS x)).map A8) (p.length:Int) row=(dn_value.f k x.f1).bind fun t27=>(if (x.f0++(⟨#[61]⟩:ByteArray)).size+t27.size≤9223372036854775807 then(if ((p.map fun x=>pairT (ofS x)).map A8).length+([(x.f0++(⟨#[61]⟩:ByteArray))++t27]:List ByteArray).length<8796093022208 then((some (((p.map fun x=>pairT (ofS x)).map A8)++([(x.f0++(⟨#[61]⟩:ByteArray))++t27]:List ByteArray):List ByteArray)).bind fun y49=>((dn_part.l0 k y49 ((p++[x]).length:Int) row))) else(none)) else(none)):=by
   intro k
   rw[dn_part.l0,if_pos (ltL h),if_pos (Int.natCast_nonneg p.length),rdT h,if_pos (by omega),hn]
  refine Evt.of_eq (Evt.bind hv ?_) hst
  refine Evt.ifp (by rw[show(⟨#[61]⟩:ByteArray)=A8 [61] from rfl,ByteArray.size_append,size_A8,size_A8];simp;omega) ?_
  refine Evt.ifp (by simp;omega) ?_
  rw[pair_text]
  simpa using ih
theorem part_ev (row:List S53) (h:okR (row.map ofS)=true):Evt (fun k=>dn_part.f k row) (A8 (rowT (row.map ofS))):=by
 obtain⟨h1,h2⟩:=okR_all h
 simp only[List.length_map] at h1
 have:=part_l0 row ⟨h1.2,fun x hx=>h2 _ (List.mem_map_of_mem hx)⟩ row [] rfl
 exact Evt.of_eq (this.val rfl) fun k=>rfl
theorem show_l0 (L:List (List S53)) (h:okN (nm L)=true):∀ (R P:List (List S53)),L=P++R→Evt (fun k=>dn_Show.l0 k ((P.map fun r=>rowT (r.map ofS)).map A8) (P.length:Int) L) (A8 (nameT (nm L)),0)
 |[],P,hL=>by
  obtain⟨h1,h2⟩:=okN_all h
  simp only[nm,List.length_map] at h1
  refine Evt.step (Evt.of_all fun k=>?_)
  have hp:L=P:=by simpa using hL
  subst hp
  have hj:=join_eq (L.map fun r=>rowT (r.map ofS)) 44 (nameT (nm L)) (by rw[← join_name,nm,List.map_map];rfl) (by simp;omega) (by have:=nameT_len h;omega)
  rw[dn_Show.l0,if_neg (nltL hL),show(⟨#[44]⟩:ByteArray)=A8 [44] from rfl,hj]
  rfl
 |row::R,P,hL=>by
  obtain⟨h1,h2⟩:=okN_all h
  simp only[nm,List.length_map] at h1
  have hrow:okR (row.map ofS)=true:=h2 _ (List.mem_map_of_mem (by rw[hL];simp))
  have hl:P.length≤6:=by rw[hL] at h1;simp at h1;omega
  have hn:=nxL P row (by omega)
  have ih:=show_l0 L h R (P++[row]) (by rw[hL];simp)
  refine Evt.step ?_
  have hst:∀ k,dn_Show.l0 (k+1) ((P.map fun r=>rowT (r.map ofS)).map A8) (P.length:Int) L=(dn_part.f k row).bind fun t19=>(if ((P.map fun r=>rowT (r.map ofS)).map A8).length<8796093022208 then((some (((P.map fun r=>rowT (r.map ofS)).map A8)++[t19]:List ByteArray)).bind fun y23=>((dn_Show.l0 k y23 ((P++[row]).length:Int) L))) else(none)):=by
   intro k
   rw[dn_Show.l0,if_pos (ltL hL),if_pos (Int.natCast_nonneg P.length),rdL hL,hn]
  refine Evt.of_eq (Evt.bind (part_ev row hrow) ?_) hst
  refine Evt.ifp (by simp;omega) ?_
  simpa using ih
def showR (L:List (List S53)):ByteArray × Int:=if okN (nm L) then(A8 (nameT (nm L)),0) else((⟨#[]⟩:ByteArray),220)
theorem show_ev (L:List (List S53)) (hL:few L):Evt (fun k=>dn_Show.f k L) (showR L):=by
 unfold showR
 cases h:okN (nm L) with
 |true=>
  have hc:=chk_ev hL
  rw[h] at hc
  exact Evt.bind hc (Evt.ifp rfl (Evt.of_eq (show_l0 L h L [] rfl) fun k=>rfl))
 |false=>
  have hc:=chk_ev hL
  rw[h] at hc
  exact Evt.bind hc (Evt.ifn (by decide) (Evt.now _))
/-! ### .. by the document -/
def restR:Bool→List Pr→Bs
 |_,[]=>[]
 |b,p::r=>(if b then[43] else[])++(pairT p++restR true r)
def restN:Bool→List (List Pr)→Bs
 |_,[]=>[]
 |b,r::l=>(if b then[44] else[])++(restR false r++restN true l)
theorem rowT_rest:∀ r:List Pr,rowT r=restR false r
 |[]=>rfl
 |[p]=>by simp[rowT,restR]
 |p::q::r=>by
  rw[rowT,rowT_rest (q::r)]
  simp[restR]
theorem nameT_rest:∀ l:List (List Pr),nameT l=restN false l
 |[]=>rfl
 |[p]=>by simp[nameT,restN,rowT_rest]
 |p::q::r=>by
  rw[nameT,nameT_rest (q::r),rowT_rest]
  simp[restN]
theorem app1 (T:Bs) (c:UInt8):A8 T++(⟨#[c]⟩:ByteArray)=A8 (T++[c]):=A8_app T [c]
theorem rshow_l1 {L P R:List (List S53)} {row:List S53} (hL:okN (nm L)=true) (h:L=P++row::R) (b:Bool) (v:ByteArray × Int) (F:Nat→ByteArray→Int→List (List S53)→Int→Option (ByteArray × Int))
  (hF:F=toponymref18_Show.l1∨F=toponymref18_Show.l2) (hv:∀ T:Bs,T.length+(restN true (nm R)).length≤100000→T++restN true (nm R)=v.1.data.toList→Evt (fun k=>toponymref18_Show.l0 k (A8 T) ((P++[row]).length:Int) L) v):
  ∀ (q p:List S53) (T:Bs),row=p++q→T.length+(restR (!p.isEmpty) (q.map ofS)++restN true (nm R)).length≤100000→T++(restR (!p.isEmpty) (q.map ofS)++restN true (nm R))=v.1.data.toList→Evt (fun k=>F k (A8 T) (p.length:Int) L (P.length:Int)) v
 |[],p,T,hp,hT,hTv=>by
  obtain⟨h1,h2⟩:=okN_all hL
  simp only[nm,List.length_map] at h1
  have hx:wrap64 ((P.length:Int)+1)=((P++[row]).length:Int):=nxL P row (by rw[h] at h1;simp at h1;omega)
  simp only[List.map_nil,restR,List.nil_append] at hT hTv
  have:=hv T hT hTv
  refine Evt.step (Evt.of_eq this fun k=>?_)
  rcases hF with rfl|rfl
  ·rw[toponymref18_Show.l1,if_pos (Int.natCast_nonneg P.length),if_pos (ltL h),rdL h,if_neg (nltL hp),hx]
  ·rw[toponymref18_Show.l2,if_pos (Int.natCast_nonneg P.length),if_pos (ltL h),rdL h,if_neg (nltL hp),hx]
 |x::q,p,T,hp,hT,hTv=>by
  obtain⟨h1,h2⟩:=okN_all hL
  have hrow:=okR_all (h2 (row.map ofS) (List.mem_map_of_mem (by rw[h];simp)))
  have hx:=hrow.2 (ofS x) (List.mem_map_of_mem (by rw[hp];simp))
  obtain⟨z1,z2⟩:=okP_sz hx
  have hl:p.length≤3:=by have:=hrow.1.2;rw[List.length_map,hp] at this;simp at this;omega
  have hn:=nxL p x (by omega)
  have hval:=rvalw_ev x.f1 (by omega)
  have hvl:=valL_len true (B x.f1)
  rw[len_B] at hvl
  have hpe:(p++[x]).isEmpty=false:=by cases p <;>rfl
  have hTl:T.length≤100000:=by omega
  have ip:(p.length:Int)>0↔p.isEmpty=false:=by cases p <;>simp <;>omega
  obtain⟨T2,hT2⟩:∃ T2,T2=T++((if (!p.isEmpty)=true then[43] else[])++pairT (ofS x)):=⟨_,rfl⟩
  have hsum:T2.length+(restR true (q.map ofS)++restN true (nm R)).length≤100000:=by
   simp only[List.map_cons,restR,List.length_append] at hT
   rw[hT2]
   simp only[List.length_append]
   omega
  have ih:=rshow_l1 hL h b v F hF hv q (p++[x]) T2 (by rw[hp];simp) (by rw[hpe];exact hsum) (by
   rw[hpe,← hTv,hT2]
   simp[restR])
  -- one pair behind a text U
  have one:∀ (U:Bs) (k:Nat),U.length≤100001→(if (A8 U).size+x.f0.size≤9223372036854775807 then(if ((A8 U)++x.f0).size+1≤9223372036854775807 then((toponymref18_Value.f k x.f1).bind fun t58=>(if (((A8 U)++x.f0)++(⟨#[61]⟩:ByteArray)).size+t58.size≤9223372036854775807 then(F k ((((A8 U)++x.f0)++(⟨#[61]⟩:ByteArray))++t58) ((p++[x]).length:Int) L (P.length:Int)) else(none))) else(none)) else(none))=(toponymref18_Value.f k x.f1).bind fun t58=>(if (((A8 U)++x.f0)++(⟨#[61]⟩:ByteArray)).size+t58.size≤9223372036854775807 then(F k ((((A8 U)++x.f0)++(⟨#[61]⟩:ByteArray))++t58) ((p++[x]).length:Int) L (P.length:Int)) else(none)):=by
   intro U k hU
   rw[if_pos (by rw[size_A8];omega),if_pos (by rw[ByteArray.size_append,size_A8];omega)]
  have two:∀ (U:Bs),U.length≤100001→U++pairT (ofS x)=T2→Evt (fun k=>(toponymref18_Value.f k x.f1).bind fun t58=>(if (((A8 U)++x.f0)++(⟨#[61]⟩:ByteArray)).size+t58.size≤9223372036854775807 then(F k ((((A8 U)++x.f0)++(⟨#[61]⟩:ByteArray))++t58) ((p++[x]).length:Int) L (P.length:Int)) else(none))) v:=by
   intro U hU hUT
   refine Evt.bind hval ?_
   refine Evt.ifp (by rw[show(⟨#[61]⟩:ByteArray)=A8 [61] from rfl,ByteArray.size_append,ByteArray.size_append,size_A8,size_A8,size_A8];simp;omega) ?_
   have:(((A8 U)++x.f0)++(⟨#[61]⟩:ByteArray))++A8 (valL true (B x.f1))=A8 T2:=by
    rw[← hUT,← A8_app,← pair_text,ByteArray.append_assoc,ByteArray.append_assoc,ByteArray.append_assoc]
   rw[this]
   exact ih
  cases hpp:p.isEmpty with
  |true=>
   have hn0: ¬ (p.length:Int)>0:=fun q=>by rw[ip.1 q] at hpp;cases hpp
   refine Evt.step (Evt.of_eq (two T (by omega) (by rw[hT2,hpp];simp)) fun k=>?_)
   rcases hF with rfl|rfl
   ·rw[toponymref18_Show.l1,if_pos (Int.natCast_nonneg P.length),if_pos (ltL h),rdL h,if_pos (ltL hp),if_neg hn0,if_pos (Int.natCast_nonneg p.length),rdT hp,hn]
    exact one T k (by omega)
   ·rw[toponymref18_Show.l2,if_pos (Int.natCast_nonneg P.length),if_pos (ltL h),rdL h,if_pos (ltL hp),if_neg hn0,if_pos (Int.natCast_nonneg p.length),rdT hp,hn]
    exact one T k (by omega)
  |false=>
   have hn0:(p.length:Int)>0:=ip.2 hpp
   refine Evt.step (Evt.of_eq (two (T++[43]) (by simp;omega) (by rw[hT2,hpp];simp)) fun k=>?_)
   rcases hF with rfl|rfl
   ·rw[toponymref18_Show.l1,if_pos (Int.natCast_nonneg P.length),if_pos (ltL h),rdL h,if_pos (ltL hp),if_pos hn0,if_pos (by rw[size_A8];omega),if_pos (Int.natCast_nonneg p.length),rdT hp,hn,app1]
    exact one (T++[43]) k (by simp;omega)
   ·rw[toponymref18_Show.l2,if_pos (Int.natCast_nonneg P.length),if_pos (ltL h),rdL h,if_pos (ltL hp),if_pos hn0,if_pos (by rw[size_A8];omega),if_pos (Int.natCast_nonneg p.length),rdT hp,hn,app1]
    exact one (T++[43]) k (by simp;omega)
theorem rshow_l0 (L:List (List S53)) (hL:okN (nm L)=true) (V:Bs):∀ (R P:List (List S53)) (T:Bs),L=P++R→T.length+(restN (!P.isEmpty) (nm R)).length≤90000→T++restN (!P.isEmpty) (nm R)=V→Evt (fun k=>toponymref18_Show.l0 k (A8 T) (P.length:Int) L) (A8 V,0)
 |[],P,T,h,hT,hTv=>by
  simp only[nm,List.map_nil,restN,List.append_nil] at hTv
  subst hTv
  refine Evt.step (Evt.of_all fun k=>?_)
  rw[toponymref18_Show.l0,if_neg (nltL h)]
 |row::R,P,T,h,hT,hTv=>by
  have ih:∀ T':Bs,T'.length+(restN true (nm R)).length≤90000→T'++restN true (nm R)=V→Evt (fun k=>toponymref18_Show.l0 k (A8 T') ((P++[row]).length:Int) L) (A8 V,0):=by
   intro T' h1 h2
   have hpe:(P++[row]).isEmpty=false:=by cases P <;>rfl
   exact rshow_l0 L hL V R (P++[row]) T' (by rw[h];simp) (by rw[hpe];exact h1) (by rw[hpe];exact h2)
  have hV:V.length≤90000:=by rw[← hTv,List.length_append];exact hT
  have ip:(P.length:Int)>0↔P.isEmpty=false:=by cases P <;>simp <;>omega
  have hVe:((A8 V,(0:Int)):ByteArray × Int).1.data.toList=V:=B_A8 V
  simp only[nm,List.map_cons,restN,List.length_append] at hT hTv
  have ih2:∀ T':Bs,T'.length+(restN true (nm R)).length≤100000→T'++restN true (nm R)=((A8 V,(0:Int)):ByteArray × Int).1.data.toList→Evt (fun k=>toponymref18_Show.l0 k (A8 T') ((P++[row]).length:Int) L) (A8 V,0):=by
   intro T' h1 h2
   rw[hVe] at h2
   refine ih T' ?_ h2
   have:=congrArg List.length h2
   rw[List.length_append] at this
   omega
  cases hpp:P.isEmpty with
  |true=>
   have hn0: ¬ (P.length:Int)>0:=fun q=>by rw[ip.1 q] at hpp;cases hpp
   rw[hpp] at hT hTv
   have:=rshow_l1 hL h false (A8 V,0) toponymref18_Show.l2 (.inr rfl) ih2 row [] T rfl (by rw[List.length_append];simp at hT ⊢;simp only[nm];omega) (by rw[hVe,← hTv];simp[nm])
   refine Evt.step (Evt.of_eq this fun k=>?_)
   rw[toponymref18_Show.l0,if_pos (ltL h),if_neg hn0]
   rfl
  |false=>
   have hn0:(P.length:Int)>0:=ip.2 hpp
   rw[hpp] at hT hTv
   have:=rshow_l1 hL h true (A8 V,0) toponymref18_Show.l1 (.inl rfl) ih2 row [] (T++[44]) rfl (by rw[List.length_append,List.length_append];simp at hT ⊢;simp only[nm];omega) (by rw[hVe,← hTv];simp[nm])
   refine Evt.step (Evt.of_eq this fun k=>?_)
   rw[toponymref18_Show.l0,if_pos (ltL h),if_pos hn0,if_pos (by rw[size_A8];omega),app1]
   rfl
theorem rshow_ev (L:List (List S53)) (hL:few L):Evt (fun k=>toponymref18_Show.f k L) (showR L):=by
 unfold showR
 cases h:okN (nm L) with
 |true=>
  have hc:=rchk_ev hL
  rw[h] at hc
  have hlen:=nameT_len h
  rw[nameT_rest] at hlen
  have:=rshow_l0 L h (nameT (nm L)) L [] [] rfl (by simp only[List.isEmpty_nil,Bool.not_true,List.length_nil];omega) (by rw[nameT_rest];rfl)
  exact Evt.bind hc (Evt.ifp rfl (Evt.of_eq this fun k=>rfl))
 |false=>
  have hc:=rchk_ev hL
  rw[h] at hc
  exact Evt.bind hc (Evt.ifn (by decide) (Evt.now _))
end Go.Proofs.Ytapinanmmhdpcaa.DnA
