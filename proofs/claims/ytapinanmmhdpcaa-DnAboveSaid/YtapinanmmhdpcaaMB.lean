import Derived.Test.YtapinanmmhdpcaaMW
import Derived.Lib.AppendStr
import Derived.Lib.UnsafeStr
import Derived.Lib.Builder
namespace Go.Proofs.Ytapinanmmhdpcaa.MB
open Go.RowKit Go.Proofs.YtapinanmmhdpcaaW.PrintWords Go.Proofs.YtapinanmmhdpcaaW.PrintLast Go.Proofs.YtapinanmmhdpcaaW.PrintMore Go.Proofs.Ytapinanmmhdpcaa.MW
set_option linter.unusedVariables false
/-- A text's bytes as numbers. -/
def numsOf (s:ByteArray):List Int:=s.data.toList.map fun b=>(b.toNat:Int)
theorem numsOf_length (s:ByteArray):(numsOf s).length=s.size:=by
 unfold numsOf
 rw[List.length_map,Array.length_toList]
 rfl
theorem strCells_nums (s:ByteArray):Lib.strCells s=encs (Value.int .u8) (numsOf s):=by
 unfold Lib.strCells numsOf encs
 rw[List.map_map]
 rfl
theorem strOfNums_numsOf (s:ByteArray):strOfNums (numsOf s)=s:=by
 unfold strOfNums numsOf
 rw[List.map_map]
 have:((fun n:Int=>UInt8.ofNat n.toNat) ∘ fun b:UInt8=>(b.toNat:Int))=id:=by
  funext b
  simp
 rw[this,List.map_id]
section
variable {P : Program} {ops : Array Oper} {rest : List Oper} {o : Oper} {a : Act} {Q : Exit → Act → World → Prop}
open Go.Proofs.YtapinanmmhdpcaaW.PrintWords.Kd
theorem run_append_str (w:World) (base:Nat) (t u ty e:TypeId) (i:TypeInfo) (ht:P.underlying t=some (.slice e)) (hu:P.underlying u=some .string) (hi:P.info? e=some i) (hz:i.zero=some (.int .u8 0)) (hsize:i.size=1) (hby:i.bytes=1)
  (v:Value) (n:Nat) (xs:List Value) (hown:w.ownsRow base e 1 v n xs) (s:ByteArray) (hbytes:n+s.size≤140737488355328) (hbase:base≤w.heap.size):
  ∃ v' w',(Builtin.append_ #[t,u] ty #[v,.string s]).run P w=.ok v' w'∧w'.ownsRow base e 1 v' (n+s.size) (xs++Lib.strCells s)∧w.grownBy w' v.ownBlock∧(v'.ownBlock=v.ownBlock∨∃ b,v'.ownBlock=some b∧w.heap.size≤b):=by
 have h63:n+s.size≤maxLen:=by unfold maxLen;omega
 obtain⟨v',w',hr,h2,h3,_⟩:=Lib.run_append_own_string (P:=P) w base t u ty e i ht hu hi hz hsize hby v n xs hown s h63 hbytes hbase
 refine⟨v',w',hr,h2,h3,?_⟩
 rcases hown.2 with⟨rfl,hn⟩|⟨g,cap,cur,rfl,hbg,hg,hnc,hcm,hcs,htake⟩
 ·have hown':w.ownsRow w.heap.size e 1 (.slice none 0 0) n xs:=⟨hown.1,.inl ⟨rfl,hn⟩⟩
  obtain⟨v2,w2,hr2,h22,_,_⟩:=Lib.run_append_own_string (P:=P) w w.heap.size t u ty e i ht hu hi hz hsize hby _ n xs hown' s h63 hbytes (Nat.le_refl _)
  rw[hr] at hr2
  injection hr2 with e1 e2
  subst e1
  rcases h22.2 with⟨rfl,_⟩|⟨g,cap,cur,rfl,hbg,_⟩
  ·exact .inl rfl
  ·exact .inr ⟨g,rfl,hbg⟩
 ·by_cases hroom:n+s.size≤cap
  ·have hr2:=Lib.run_append_room_string (P:=P) w t u ty e i ht hu hi hsize g n cap cur hg s hroom (by rw[hcs];omega)
   rw[hr] at hr2
   injection hr2 with e1 e2
   subst e1
   exact .inl rfl
  ·have holds:∀ j u,xs[j]? =some u→w.cell? ((⟨g,0,none⟩:Addr).add j)=some u:=hown.cells (g:=g) rfl
   have hr2:=Lib.run_append_grow_string (P:=P) w t u ty e i (.int .u8 0) ht hu hi hz ⟨g,0,none⟩ n cap xs (by rw[hsize];exact hown.1) holds s (by omega) (by omega) (by rw[hby];exact growslice_fits (by omega) (by omega))
   rw[hr] at hr2
   injection hr2 with e1 e2
   subst e1
   exact .inr ⟨_,rfl,Nat.le_refl _⟩
theorem own_of_N {α :Type} {enc: α →Value} {h1:∀ x,(enc x).oneCell'=true} {e base:Nat} {w:World} {ok:Nat→Prop} {v:Value} {xs:List α} (h:N (scalar enc h1) e w base ok v xs):w.ownsRow base e 1 v xs.length (encs enc xs):=by
 obtain⟨h0,rows,hl,⟨_,inner,ho,hr⟩,hf⟩:=h
 refine own_of_R (enc:=enc) (h1:=h1) (ok:=ok) ⟨h0,inner,?_,?_⟩
 ·rw[hl] at ho
  exact ho
 ·refine⟨?_,fun j x hj=>?_⟩
  ·rw[hr.1,hl]
   rfl
  ·have hjl:=(List.getElem?_eq_some_iff.1 hj).1
   have hj2:j<rows.length:=by omega
   have h3:=hr.2 j _ (List.getElem?_eq_getElem hj2)
   have h4:=Kd.FK_now (hf j x _ hj (List.getElem?_eq_getElem hj2))
   have h5:(inner.drop (j*(scalar enc h1).sz)).take (scalar enc h1).sz=rows[j]:=h3.1
   show(inner.drop (j*(scalar enc h1).sz)).take (scalar enc h1).sz=[enc x]
   rw[h5]
   exact h4
theorem N_of_own {α :Type} {enc: α →Value} {h1:∀ x,(enc x).oneCell'=true} {e base:Nat} {w:World} {ok:Nat→Prop} {v:Value} {xs:List α} (ho:w.ownsRow base e 1 v xs.length (encs enc xs)) (hok:∀ k,v.ownBlock=some k→ok k):N (scalar enc h1) e w base ok v xs:=R_N (R_of_own ho hok)
/-- append(v, s...), s a string. -/
theorem N_append_str {w0 W:World} (base:Nat) (hgd:o.guard=none) (s x:Operand) (t u e:TypeId) (ho:o.op=.call {callee:=.builtin .append,args:= #[s,x],argTypes:= #[t,u]})
  (ht:P.underlying t=some (.slice e)) (hu:P.underlying u=some .string) (hinfo:(P.info? e).map (fun i=>(i.zero,i.size,i.bytes))=some (some (.int .u8 0),1,1))
  (v:Value) (xs:List Int) (b:ByteArray) (ok:Nat→Prop) (hs:a.eval s=v) (hx:a.eval x=.string b) (HO:N (Kd.int .u8) e W base ok v xs) (hfresh:∀ k,W.heap.size≤k→ok k)
  (HB:Below base w0 W) (hbase:base≤W.heap.size) (hl:xs.length+b.size<140737488355328)
  (h:∀ v1 w1,N (Kd.int .u8) e w1 base ok v1 (xs++numsOf b)→Below base w0 w1→W.grownBy w1 v.ownBlock→(v1.ownBlock=v.ownBlock∨∃ b,v1.ownBlock=some b∧W.heap.size≤b)→wpList P ops Q rest (a.put o.dst v1) w1):
  wpList P ops Q (o::rest) a W:=by
 obtain⟨i,hi,hzz⟩:=Option.map_eq_some_iff.1 hinfo
 simp only[Prod.mk.injEq] at hzz
 obtain⟨hz,hsize,hby⟩:=hzz
 refine wpList_plain hgd fun K hK=>?_
 obtain⟨v',w',hr,h2,h3,h4⟩:=run_append_str (P:=P) W base t u o.type e i ht hu hi hz hsize hby v xs.length _ (own_of_N HO) b (by omega) hbase
 unfold Oper.wp execOp
 simp only[ho,resolve,invoke,builtin,Sem.run_bind,Sem.run_pure,Result.andThen_ok,List.map_toArray,List.map_cons,List.map_nil,hs,hx,hr]
 refine hK _ _ (h v' w' ?_ (Below.grown HB h3 hbase (N_base HO)) h3 h4)
 refine N_of_own ?_ (fun k hk=>?_)
 ·have:(xs++numsOf b).length=xs.length+b.size:=by rw[List.length_append,numsOf_length]
  rw[this]
  have he:encs (Value.int .u8) (xs++numsOf b)=encs (Value.int .u8) xs++Lib.strCells b:=by
   rw[strCells_nums]
   simp[encs]
  rw[he]
  exact h2
 ·rcases h4 with h4|⟨q,hq,hle⟩
  ·exact HO.1 k (h4 ▸ hk)
  ·rw[hq] at hk
   injection hk with hk
   exact hfresh k (by omega)
end
/-! ### unsafe.String over a row -/
section
variable {P : Program} (w : World)
theorem run_loadBytes_ints:∀ (l:List Int) (a:Addr) (acc:ByteArray),(∀ j x,l[j]? =some x→w.cell? (a.add j)=some (.int .u8 x))→(loadBytes a acc l.length).run P w=.ok (acc++strOfNums l) w
 |[],a,acc,_=>by
  simp only[loadBytes,List.length_nil,Sem.run_pure]
  congr 1
  apply ByteArray.ext
  simp[strOfNums]
 |x::l,a,acc,h=>by
  have h0:w.cell? a=some (.int .u8 x):=by
   have:=h 0 x rfl
   rwa [Addr.add_zero'] at this
  have ih:=run_loadBytes_ints l (a.add 1) (acc.push x.toNat.toUInt8) (fun j y hj=>by
   have:=h (j+1) y (by simpa using hj)
   have e:(a.add 1).add j=a.add (j+1):=by
    unfold Addr.add
    by_cases hj:j=0
    ·subst hj;simp
    ·simp[hj];omega
   rw[e]
   exact this)
  have hl:(load a).run P w=.ok (.int .u8 x) w:=by
   simp[run_load,h0]
  simp only[List.length_cons,loadBytes,Sem.run_bind,hl,Result.andThen_ok,ih]
  congr 1
  unfold strOfNums
  apply ByteArray.ext
  simp[Nat.toUInt8]
end
/-! ### the cells of a variable in memory -/
theorem lz1 {w:World} {g t:Nat} {a0:Value} (h:w.heap[g]? =some (.cells #[a0] t (0,0))):w.cell? ⟨g,0,none⟩=some a0:=(blk_cell h 0).trans rfl
theorem lz2 {w:World} {g t:Nat} {a0 a1:Value} (h:w.heap[g]? =some (.cells #[a0,a1] t (0,0))):w.cell? ⟨g,0,none⟩=some a0∧w.cell? ⟨g,1,none⟩=some a1:=⟨(blk_cell h 0).trans rfl,(blk_cell h 1).trans rfl⟩
/-! ### what a call with a pointer leaves as it was -/
theorem bsize {a:Nat} {w W:World} (h:Below a w W):w.heap.size≤W.heap.size:=h.size
theorem below_stepB {B:Nat} {w W w2:World} (hB:B≤w.heap.size) (h:Below B w W) (k:Below W.heap.size W w2):Below B w w2:=below_then h (Nat.le_trans hB h.size) k
theorem below_allocB {B:Nat} {w W:World} (hB:B≤w.heap.size) (h:Below B w W) (o:Obj):Below B w (W.alloc o):=h.alloc (Nat.le_trans hB h.size) o
/-- A fact of the world alone, in the form of a row that is read: the blocks of S are as they were in w0. -/
def frK (w0:World) (S:Nat→Prop):Kd Unit where
 sz:=0
 E:=[]
 K:=fun W _ cs=>cs=[]∧∀ k,S k→k<w0.heap.size→W.heap[k]? =w0.heap[k]?
 M:=fun _ _ _ _ _=>False
 K_len:=fun h=>by rw[h.1];rfl
 K_one:=fun h u hu=>by rw[h.1] at hu;cases hu
 K_below:=fun {w w1 x cs} hb h=>⟨h.1,fun k hk hlt=>by
  have h2:=h.2 k hk hlt
  have:k<w.heap.size:=by
   rcases Nat.lt_or_ge k w.heap.size with h'|h'
   ·exact h'
   ·rw[Array.getElem?_eq_none h',Array.getElem?_eq_getElem hlt] at h2
    cases h2
  exact(hb.block k this).trans h2⟩
 K_of_M:=fun h=>h.elim
 M_mono:=fun _ h=>h
 M_bound:=fun h=>h.elim
 M_move:=fun _ h=>h
 M_lower:=fun _ h=>h
theorem frK_new (w:World) {S ok:Nat→Prop} (h:∀ k,S k→ok k):Kd.F (frK w S) w ok (some ⟨0,0,none⟩) [()].length [()]:=fun W' hW=>
 ⟨rfl,by simp,fun _=>⟨_,rfl,fun j p hj=>⟨[],rfl,⟨rfl,fun k hk hlt=>hW k (h k hk) hlt⟩,fun i u hu=>by simp at hu⟩⟩⟩
theorem frK_out {w W:World} {S ok:Nat→Prop} {A:Option Addr} {n:Nat} (h:Kd.F (frK w S) W ok A n [()]):∀ k,S k→k<w.heap.size→W.heap[k]? =w.heap[k]? :=by
 have h1:=Kd.F_now h
 have hn:0<n:=by have:=h1.1;simp at this;omega
 obtain⟨ad,_,hc⟩:=h1.2.2 hn
 obtain⟨c,_,hK,_⟩:=hc 0 () rfl
 exact hK.2
section
open Go.Proofs.YtapinanmmhdpcaaW.PrintWords.Kd
variable {α : Type} {d : Kd α} {e base n g g2 : Nat} {ok : Nat → Prop} {W w1 : World} {v u : Value} {A : Option Addr} {xs : List α} {o : Obj}
end
/-! ### unsafe.String of a row of the call's own -/
section
variable {P : Program} (w : World)
theorem run_unsafeString_ints (pt it ty e:TypeId) (hp:P.underlying pt=some (.pointer e)) (hc:P.cellsOf e=1) (g cells:Nat) (hsh:w.shape? g=some (e,cells)) (l:List Int) (h0:l≠[]) (hn:l.length≤cells) (h63:l.length≤9223372036854775807)
  (hcell:∀ j x,l[j]? =some x→w.cell? ((⟨g,0,none⟩:Addr).add j)=some (.int .u8 x)):
  (Builtin.unsafeString_ #[pt,it] ty #[.pointer (some ⟨g,0,none⟩),.int .i64 l.length]).run P w=.ok (.string (strOfNums l)) (w.freeze ⟨g,0,none⟩ l.length):=by
 have hl:l.length≠0:=by simpa using h0
 have hlb:=run_loadBytes_ints (P:=P) w l ⟨g,0,none⟩ .empty hcell
 have he:ByteArray.empty++strOfNums l=strOfNums l:=by simp
 rw[he] at hlb
 have hlies:=Lib.liesAt_bytes (P:=P) hc (cells / P.cellsOf e) l.length (by rw[hc];simpa using hn)
 have h63': ¬ (9223372036854775807:Int)<(l.length:Int):=by omega
 have hdef:Builtin.unsafeString_ #[pt,it] ty #[.pointer (some ⟨g,0,none⟩),.int .i64 l.length]=
   (do
    let n ← asInt (.int .i64 l.length)
    if n<0 then runtimePanic (.error "unsafe.String: len out of range")
    if n>IntKind.i64.max then unsupported (.unsafePointer "String: a length above the largest int")
    if n=0 then pure (.string .empty)
    else if ← variablesAt ⟨g,0,none⟩ (← elemOf pt) n.toNat then do
     let s ← loadBytes ⟨g,0,none⟩ .empty n.toNat
     freeze ⟨g,0,none⟩ n.toNat
     pure (.string s)
    else unsupported (.unsafePointer "String: not so many bytes at ptr")):=rfl
 rw[hdef]
 have hmax:IntKind.i64.max=9223372036854775807:=rfl
 have hneg: ¬ (l.length:Int)<0:=by omega
 simp[asInt,asIntOf,hmax,h63',hneg,hl,variablesAt,hsh,elemOf,run_underlying hp,hlies,hlb]
theorem freeze_grown {W:World} (g n:Nat):W.grownBy (W.drew.freeze ⟨g,0,none⟩ n) (some g):=by
 unfold World.freeze
 split
 ·exact⟨rfl,rfl,rfl,Nat.le_refl _,fun _ _ _=>rfl⟩
 ·refine⟨rfl,rfl,rfl,by simp,fun k hk hne=>?_⟩
  have:k≠g:=fun he=>hne (by rw[he])
  simp only[Array.getElem?_modify]
  rw[if_neg (fun he=>this he.symm)]
  rfl
end
end Go.Proofs.Ytapinanmmhdpcaa.MB
