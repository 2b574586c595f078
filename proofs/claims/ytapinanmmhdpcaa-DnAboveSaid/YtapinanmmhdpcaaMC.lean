import Derived.Test.YtapinanmmhdpcaaMB
import Derived.Lib.ConvBytes
set_option linter.unusedVariables false
set_option linter.unusedSimpArgs false
namespace Go.Proofs.Ytapinanmmhdpcaa.MC
open Go.RowKit Go.Proofs.Ytapinanmmhdpcaa Go.Proofs.Ytapinanmmhdpcaa.MW Go.Proofs.YtapinanmmhdpcaaW.PrintWords Go.Proofs.YtapinanmmhdpcaaW.PrintLast Go.Proofs.YtapinanmmhdpcaaW.PrintMore
/-! ### []byte(s): a row of bytes that a conversion made (the model marks its block, so it is no Kd.N) -/
/-- A row of bytes of the call's own, made by a conversion. -/
def KB (e:Nat) (w:World) (base:Nat) (ok:Nat→Prop) (v:Value) (l:List Int):Prop:=
 ∃ g c m z,v=.slice (some ⟨g,0,none⟩) l.length c∧l.length≤c∧l.length≤m∧l.length≤9223372036854775807∧ok g∧base≤g∧w.heap[g]? =some (.cells (nums .u8 l++z).toArray e (m,m+1))
section
variable {e base : Nat} {w w1 : World} {ok ok' : Nat → Prop} {v : Value} {l : List Int}
theorem hlt {w:World} {g:Nat} {o:Obj} (h:w.heap[g]? =some o):g<w.heap.size:=(Array.getElem?_eq_some_iff.1 h).1
theorem KB_step (h:KB e w base ok v l) (hm:∀ k,ok k→k<w.heap.size→w1.heap[k]? =w.heap[k]?):KB e w1 base ok v l:=by
 obtain⟨g,c,m,z,rfl,h1,h2,h3,h4,h5,h6⟩:=h
 exact⟨g,c,m,z,rfl,h1,h2,h3,h4,h5,(hm g h4 (hlt h6)).trans h6⟩
theorem KB_mono (h:KB e w base ok v l) (hok:∀ k,ok k→ok' k):KB e w base ok' v l:=by
 obtain⟨g,c,m,z,rfl,h1,h2,h3,h4,h5,h6⟩:=h
 exact⟨g,c,m,z,rfl,h1,h2,h3,hok g h4,h5,h6⟩
theorem KB_below (h:KB e w base ok v l) (hb:Below w.heap.size w w1):KB e w1 base ok v l:=KB_step h (fun k _ hk=>hb.block k hk)
theorem KB_drewN (h:KB e w base ok v l) (m:Nat):KB e (w.drewN m) base ok v l:=KB_below h (pw_below_drewN (Below.refl _ _) m)
theorem KB_grown (h:KB e w base ok v l) {row:Option Nat} (hg:w.grownBy w1 row) (hok:∀ k,ok k→some k≠row):KB e w1 base ok v l:=KB_step h (fun k ho hk=>hg.block k hk (hok k ho))
theorem KB_ok (h:KB e w base ok v l):∀ k,v.ownBlock=some k→ok k:=by
 obtain⟨g,c,m,z,rfl,h1,h2,h3,h4,h5,h6⟩:=h
 intro k hk
 have:g=k:=by simpa [Value.ownBlock] using hk
 subst this
 exact h4
theorem KB_away {g:Nat} (h:KB e w base ok v l) (hok:∀ k,ok k→k≠g):some g≠v.ownBlock:=fun he=>hok g (KB_ok h g he.symm) rfl
theorem KB_slice (h:KB e w base ok v l):∃ A c,v=.slice A l.length c:=by
 obtain⟨g,c,m,z,rfl,h1,h2,h3,h4,h5,h6⟩:=h
 exact⟨_,c,rfl⟩
theorem KB_cells {g n c:Nat} {A:Option Addr} (h:KB e w base ok (.slice A n c) l):∃ g m z,A=some ⟨g,0,none⟩∧n=l.length∧l.length≤c∧l.length≤m∧l.length≤9223372036854775807∧ok g∧base≤g∧w.heap[g]? =some (.cells (nums .u8 l++z).toArray e (m,m+1)):=by
 obtain⟨g,c',m,z,he,h1,h2,h3,h4,h5,h6⟩:=h
 injection he with ha hn hc
 subst hc
 exact⟨g,m,z,ha,hn,h1,h2,h3,h4,h5,h6⟩
theorem KB_reads' {n c:Nat} {A:Option Addr} (h:KB e w base ok (.slice A n c) l):n=l.length∧n≤c∧(Kd.int .u8).C w A l.length l:=by
 obtain⟨g,m,z,rfl,rfl,h1,h2,h3,h4,h5,h6⟩:=KB_cells (g:=0) h
 refine⟨rfl,h1,rfl,h3,fun hp=>⟨_,rfl,fun j p hj=>⟨[.int .u8 p],rfl,rfl,fun i u hi=>?_⟩⟩⟩
 have hi0:i=0∧u=.int .u8 p:=by
  cases i with
  |zero=>exact⟨rfl,by simpa using hi.symm⟩
  |succ i=>simp at hi
 obtain⟨rfl,rfl⟩:=hi0
 have hjl:j<l.length:=(List.getElem?_eq_some_iff.1 hj).1
 have hj2:l[j]'hjl=p:=(List.getElem?_eq_some_iff.1 hj).2
 have hsz:(Kd.int .u8).sz=1:=rfl
 rw[hsz,Nat.mul_one,Nat.add_zero,add_plain]
 rw[cell_of_row w g j _ e _ h6]
 rw[List.getElem?_toArray,List.getElem?_append_left (by rw[nums_length];exact hjl)]
 simp[nums,hj]
theorem KB_F {n c:Nat} {A:Option Addr} (h:KB e w base ok (.slice A n c) l):Kd.F (Kd.int .u8) w ok A n l:=fun W' hW=>by
 have h2:=KB_reads' (KB_step h hW)
 rw[h2.1]
 exact h2.2.2
end
section
variable {e base g : Nat} {W w1 : World} {ok : Nat → Prop} {v v1 u : Value} {l : List Int}
theorem KB_znb (h:KB e W base ok v l) (hb:Below W.heap.size W w1):Aside0 (KB e w1 base ok v l):=⟨KB_below h hb⟩
theorem KB_zng (h:KB e W base ok v l) (hg:W.grownBy w1 (some g)) (hk:∀ k,ok k→k≠g):Aside0 (KB e w1 base ok v l):=⟨KB_grown h hg (fun k hk2 he=>hk k hk2 (Option.some.inj he))⟩
end
section
variable {P : Program} {ops : Array Oper} {rest : List Oper} {o : Oper} {a : Act} {Q : Exit → Act → World → Prop}
/-- []byte(s). -/
theorem ev_conv {w0 W:World} (base e:Nat) (hgd:o.guard=none) (src dst:TypeId) (x:Operand) (ho:o.op=.convert src dst x)
  (hs:P.underlying src=some .string) (hd:P.underlying dst=some (.slice e)) (he:P.underlying e=some (.int .u8)) (s:ByteArray) (ok:Nat→Prop) (hx:a.eval x=.string s)
  (hfresh:∀ k,W.heap.size≤k→ok k) (HB:Below base w0 W) (hbase:base≤W.heap.size) (hl:s.size<140737488355328)
  (h:∀ v1 w1,KB e w1 base ok v1 (MB.numsOf s)→Below base w0 w1→W.grownBy w1 none→(∃ b,v1.ownBlock=some b∧W.heap.size≤b)→wpList P ops Q rest (a.put o.dst v1) w1):
  wpList P ops Q (o::rest) a W:=by
 refine wpList_plain hgd fun K hK=>?_
 have hr:=Lib.run_convert_string_bytes (P:=P) W src dst e s hs hd he
 unfold Oper.wp execOp
 simp only[ho,hx,Sem.run_bind,Sem.run_pure,Result.andThen_ok,hr]
 have hsz:=Lib.bytesWorld_size W e s
 have hgr:W.grownBy (Lib.bytesWorld W e s) none:=⟨rfl,rfl,rfl,by rw[hsz];omega,fun k hk _=>Lib.bytesWorld_at_old W e s k hk⟩
 have hnl:(MB.numsOf s).length=s.size:=MB.numsOf_length s
 refine hK _ _ (h _ _ ⟨W.heap.size,grownCap W s.size 0 e,(Lib.bytesCells W e s).size,List.replicate (grownCap W s.size 0 e - s.size) (.int .u8 0),?_,?_,?_,?_,hfresh _ (Nat.le_refl _),hbase,?_⟩ ?_ hgr ⟨W.heap.size,rfl,Nat.le_refl _⟩)
 ·rw[hnl]
 ·rw[hnl];exact grownCap_ge W s.size 0 e
 ·rw[hnl]
  simp only[Lib.bytesCells,Array.size_append,Array.size_map,Array.size_replicate]
  have:s.data.size=s.size:=rfl
  omega
 ·rw[hnl];omega
 ·rw[Lib.bytesWorld_at_new]
  congr 1
  congr 1
  apply Array.ext'
  simp[Lib.bytesCells,nums,MB.numsOf]
 ·exact Below.grown HB hgr hbase (fun k hk=>by cases hk)
/-- b[i] = x, b of a conversion. -/
theorem ev_setB {w0 W:World} (base e:Nat) (hN:o.dst=none) (hgd:o.guard=none) (t:TypeId) (p x:Operand) (ho:o.op=.store t p x) {ad:Addr} {n cap:Nat} (i:Int) (xs:List Int) (x':Int) (ok:Nat→Prop)
  (haddr:a.eval p=.pointer (some (ad.add i.toNat))) (hx:a.eval x=.int .u8 x') (ht:(P.info? t).map (·.size)=some 1)
  (HO:KB e W base ok (.slice (some ad) n cap) xs) (h0:0≤i) (hi:i<n) (HB:Below base w0 W)
  (h:∀ w1,KB e w1 base ok (.slice (some ad) n cap) (xs.set i.toNat x')→Below base w0 w1→W.grownBy w1 (Value.slice (some ad) n cap).ownBlock→wpList P ops Q rest a w1):wpList P ops Q (o::rest) a W:=by
 obtain⟨g,m,z,hA,rfl,h1,h2,h3,h4,h5,h6⟩:=KB_cells (g:=0) HO
 injection hA with hA
 subst hA
 rw[add_plain] at haddr
 have hil:i.toNat<xs.length:=by omega
 have hfit:i.toNat<(nums .u8 xs++z).toArray.size:=by
  rw[List.size_toArray,List.length_append,nums_length];omega
 obtain⟨inf,hinf,hsz⟩:=Option.map_eq_some_iff.1 ht
 have hrun:(Instr.storeAt t (.pointer (some ⟨g,i.toNat,none⟩)) (.int .u8 x')).run P W=.ok () (W.setCell ⟨g,i.toNat,none⟩ (.int .u8 x')):=by
  have hst:=run_storeCells_cells (P:=P) g i.toNat [.int .u8 x'] 0 W (fun j hj=>by
    have hj0:j=0:=by simp at hj;omega
    subst hj0
    rw[cell_of_row W g _ _ e _ h6];simp at hfit ⊢;omega) (fun j hj=>by
    have hj0:j=0:=by simp at hj;omega
    subst hj0
    simp only[World.frozen?,h6]
    simp
    omega) (by simp[Value.oneCell'])
  simp only[Nat.add_zero] at hst
  have hcs:(Value.int .u8 x').cells= #[.int .u8 x']:=rfl
  simp[Instr.storeAt,Instr.sureAddr,storeVar,sizeOf,typeInfo,hinf,hsz,hcs,hst,World.setCells]
 have hnew:(W.setCell ⟨g,i.toNat,none⟩ (.int .u8 x')).heap[g]? =some (.cells (nums .u8 (xs.set i.toNat x')++z).toArray e (m,m+1)):=by
  simp only[World.setCell]
  rw[Array.getElem?_modify,if_pos rfl,h6]
  simp[nums,List.set_append,hil]
 have hgr:W.grownBy (W.setCell ⟨g,i.toNat,none⟩ (.int .u8 x')) (some g):=⟨rfl,rfl,rfl,by simp[World.setCell],fun k _ hk=>Below.heap_setCell _ _ _ _ (fun e=>hk (by simp[e]))⟩
 refine wpList_plain hgd fun K hK=>?_
 unfold Oper.wp execOp
 simp only[ho,haddr,hx,Sem.run_bind,Sem.run_pure,Result.andThen_ok,hrun]
 show K (a.put o.dst undef) _
 rw[hN]
 refine hK a _ (h _ ⟨g,cap,m,z,?_,?_,?_,?_,h4,h5,hnew⟩ ?_ ?_)
 ·rw[List.length_set]
 ·rw[List.length_set];exact h1
 ·rw[List.length_set];exact h2
 ·rw[List.length_set];exact h3
 ·refine HB.trans ⟨hgr.os,hgr.tape,hgr.output,hgr.size,fun k hk=>?_⟩
  exact Below.heap_setCell _ _ _ _ (fun e=>by simp at e;omega)
 ·simpa [Value.ownBlock] using hgr
/-- string(b), b of a conversion. -/
theorem KB_string {W:World} {base e:Nat} {ok:Nat→Prop} {src dst:TypeId} {A:Option Addr} {n c:Nat} {l:List Int} (hs:P.underlying src=some (.slice e)) (he:P.underlying e=some (.int .u8)) (hd:P.underlying dst=some .string)
  (h:KB e W base ok (.slice A n c) l):(convert src dst (.slice A n c)).run P W=.ok (.string (strOfNums l)) W:=by
 obtain⟨hn,_,hC⟩:=KB_reads' h
 subst hn
 exact Kd.C_string hs he hd hC
end
/-! ### a row of rows whose last one is the call's own, too -/
abbrev RV:={v:Value // v.oneCell'=true}
abbrev KV:Kd RV:=Kd.scalar (fun x:RV=>x.1) (fun x=>x.2)
def nilRV:RV:=⟨.slice none 0 0,rfl⟩
section
variable {α : Type} {d : Kd α} {e2 e base : Nat} {w w1 : World} {ok ok' : Nat → Prop} {v : Value} {hs : List RV} {ls l : List (List α)}
def FI (d:Kd α) (e2:Nat) (w:World) (ok:Nat→Prop) (hs:List RV) (ls:List (List α)):Prop:=hs.length=ls.length∧∀ (j:Nat) (x:RV) (l:List α),hs[j]? =some x→ls[j]? =some l→Kd.FK (Kd.slice e2 d) w ok l [x.1]
theorem FI_step (h:FI d e2 w ok hs ls) (hm:∀ k,ok k→k<w.heap.size→w1.heap[k]? =w.heap[k]?):FI d e2 w1 ok hs ls:=⟨h.1,fun j x l hx hl=>Kd.FK_step (h.2 j x l hx hl) hm⟩
theorem FI_mono (h:FI d e2 w ok hs ls) (hok:∀ k,ok k→ok' k):FI d e2 w ok' hs ls:=⟨h.1,fun j x l hx hl=>Kd.FK_mono (h.2 j x l hx hl) hok⟩
theorem FI_bound (h:FI d e2 w ok hs ls):FI d e2 w (fun k=>ok k∧k<w.heap.size) hs ls:=⟨h.1,fun j x l hx hl=>Kd.FK_bound (h.2 j x l hx hl)⟩
theorem FI_after {u u1:Value} (h:FI d e2 w (fun k=>ok k∧some k≠u.ownBlock) hs ls) (hg:w.grownBy w1 u.ownBlock) (hat:u1.ownBlock=u.ownBlock∨∃ b,u1.ownBlock=some b∧w.heap.size≤b):FI d e2 w1 (fun k=>ok k∧some k≠u1.ownBlock) hs ls:=by
 refine FI_mono (FI_step (FI_bound h) (fun k hk hlt=>hg.block k hlt hk.1.2)) (fun k hk=>⟨hk.1.1,?_⟩)
 rcases hat with hat|⟨b,hb,hle⟩
 ·rw[hat];exact hk.1.2
 ·rw[hb]
  intro he
  injection he with he
  have:=hk.2
  omega
theorem FI_grown (h:FI d e2 w ok hs ls) {row:Option Nat} (hg:w.grownBy w1 row) (hok:∀ k,ok k→some k≠row):FI d e2 w1 ok hs ls:=FI_step h (fun k ho hk=>hg.block k hk (hok k ho))
theorem FI_snoc {x:RV} {y:List α} (h:FI d e2 w ok hs ls) (hx:Kd.FK (Kd.slice e2 d) w ok y [x.1]):FI d e2 w ok (hs++[x]) (ls++[y]):=by
 refine⟨by simp[h.1],fun j z l hz hl=>?_⟩
 rcases Nat.lt_or_ge j hs.length with hj|hj
 ·rw[List.getElem?_append_left hj] at hz
  rw[List.getElem?_append_left (by rw[← h.1];exact hj)] at hl
  exact h.2 j z l hz hl
 ·rw[List.getElem?_append_right hj] at hz
  rw[List.getElem?_append_right (by rw[← h.1];exact hj),← h.1] at hl
  have hj0:j - hs.length=0:=by
   have:=(List.getElem?_eq_some_iff.1 hz).1
   simp at this
   omega
  rw[hj0] at hz hl
  simp only[List.getElem?_cons_zero,Option.some.injEq] at hz hl
  subst hz;subst hl
  exact hx
/-- Rows that are read, and a last one that is the call's own; so is the row of them. -/
def NP (d:Kd α) (e2:Nat) (e:Nat) (w:World) (base:Nat) (ok:Nat→Prop) (v:Value) (l:List (List α)):Prop:=
 ∃ (hs:List RV) (ls:List (List α)) (vl:RV) (last:List α),l=ls++[last]∧Kd.N KV e w base (fun k=>ok k∧some k≠vl.1.ownBlock) v (hs++[vl])∧
  Kd.N d e2 w base (fun k=>ok k∧some k≠v.ownBlock) vl.1 last∧FI d e2 w (fun k=>(ok k∧some k≠v.ownBlock)∧some k≠vl.1.ownBlock) hs ls
theorem NP_step (h:NP d e2 e w base ok v l) (hm:∀ k,ok k→k<w.heap.size→w1.heap[k]? =w.heap[k]?):NP d e2 e w1 base ok v l:=by
 obtain⟨hs,ls,vl,last,rfl,h1,h2,h3⟩:=h
 exact⟨hs,ls,vl,last,rfl,Kd.N_step h1 (fun k hk=>hm k hk.1),Kd.N_step h2 (fun k hk=>hm k hk.1),FI_step h3 (fun k hk=>hm k hk.1.1)⟩
theorem NP_mono (h:NP d e2 e w base ok v l) (hok:∀ k,ok k→ok' k):NP d e2 e w base ok' v l:=by
 obtain⟨hs,ls,vl,last,rfl,h1,h2,h3⟩:=h
 exact⟨hs,ls,vl,last,rfl,Kd.N_mono h1 (fun k hk=>⟨hok k hk.1,hk.2⟩),Kd.N_mono h2 (fun k hk=>⟨hok k hk.1,hk.2⟩),FI_mono h3 (fun k hk=>⟨⟨hok k hk.1.1,hk.1.2⟩,hk.2⟩)⟩
theorem NP_slice (h:NP d e2 e w base ok v l):∃ A c,v=.slice A l.length c:=by
 obtain⟨hs,ls,vl,last,rfl,h1,h2,h3⟩:=h
 obtain⟨A,c,he⟩:=Kd.N_slice h1
 refine⟨A,c,?_⟩
 rw[he]
 simp[h3.1]
theorem NP_grown (h:NP d e2 e w base ok v l) {row:Option Nat} (hg:w.grownBy w1 row) (hok:∀ k,ok k→some k≠row):NP d e2 e w1 base ok v l:=NP_step h (fun k ho hk=>hg.block k hk (hok k ho))
/-- .. all of it is read from here on. -/
theorem NP_N (h:NP d e2 e w base ok v l):Kd.N (Kd.slice e2 d) e w base ok v l:=by
 obtain⟨hs,ls,vl,last,rfl,h1,h2,h3⟩:=h
 obtain⟨A,c,hv⟩:=Kd.N_slice h2
 have hl:Kd.FK (Kd.slice e2 d) w (fun k=>ok k∧some k≠v.ownBlock) last [vl.1]:=by
  rw[hv] at h2 ⊢
  exact Kd.FK_slice_mk (Kd.N_reads' h2).2.1 (Kd.N_F h2)
 have hF:=FI_snoc (FI_mono h3 (fun k hk=>hk.1)) hl
 obtain⟨h0,rows,hl2,hR,hK⟩:=h1
 refine⟨fun k hk=>(h0 k hk).1,rows,by rw[hl2,hF.1],hR,fun j x c hx hc=>?_⟩
 have hj:j<(hs++[vl]).length:=by rw[hF.1];exact(List.getElem?_eq_some_iff.1 hx).1
 have hq:=hK j _ c (List.getElem?_eq_getElem hj) hc
 have hc':c=[((hs++[vl])[j]'hj).1]:=Kd.FK_now hq
 rw[hc']
 exact hF.2 j _ x (List.getElem?_eq_getElem hj) hx
theorem NP_init (h:Kd.N KV e w base ok v [nilRV]):NP d e2 e w base ok v [[]]:=
 ⟨[],[],nilRV,[],rfl,Kd.N_mono h (fun k hk=>⟨hk,by simp[nilRV,Value.ownBlock]⟩),Kd.N_nil _ _ _ _ _,rfl,fun j x l hx=>by simp at hx⟩
/-- .. a last row more. -/
theorem NP_shut (h:NP d e2 e w base ok v l):∃ hs,Kd.N KV e w base ok v hs∧FI d e2 w (fun k=>ok k∧some k≠v.ownBlock) hs l∧hs.length=l.length:=by
 obtain⟨hs,ls,vl,last,rfl,h1,h2,h3⟩:=h
 obtain⟨A,c,hv⟩:=Kd.N_slice h2
 have hl:Kd.FK (Kd.slice e2 d) w (fun k=>ok k∧some k≠v.ownBlock) last [vl.1]:=by
  rw[hv] at h2 ⊢
  exact Kd.FK_slice_mk (Kd.N_reads' h2).2.1 (Kd.N_F h2)
 have hF:=FI_snoc (FI_mono h3 (fun k hk=>hk.1)) hl
 exact⟨hs++[vl],Kd.N_mono h1 (fun k hk=>hk.1),hF,hF.1⟩
theorem NP_more (h:Kd.N KV e w base ok v (hs++[nilRV])) (hF:FI d e2 w (fun k=>ok k∧some k≠v.ownBlock) hs l):NP d e2 e w base ok v (l++[[]]):=
 ⟨hs,l,nilRV,[],rfl,Kd.N_mono h (fun k hk=>⟨hk,by simp[nilRV,Value.ownBlock]⟩),Kd.N_nil _ _ _ _ _,FI_mono hF (fun k hk=>⟨hk,by simp[nilRV,Value.ownBlock]⟩)⟩
/-- .. its last row is taken out, to be turned. -/
theorem NP_open {A:Option Addr} {n c:Nat} (h:NP d e2 e w base ok (.slice A n c) l) (i:Int) (hi:i=(l.length:Int) - 1):∃ (ad:Addr) (hs:List RV) (vl:RV),A=some ad∧n=l.length∧i.toNat=hs.length∧hs.length+1=l.length∧
  Kd.N KV e w base (fun k=>ok k∧some k≠vl.1.ownBlock) (.slice A n c) (hs++[vl])∧Kd.N d e2 w base (fun k=>ok k∧some k≠(Value.slice A n c).ownBlock) vl.1 (l.getD i.toNat [])∧
  FI d e2 w (fun k=>(ok k∧some k≠(Value.slice A n c).ownBlock)∧some k≠vl.1.ownBlock) hs (l.take i.toNat)∧w.cell? (ad.add i.toNat)=some vl.1:=by
 obtain⟨hs,ls,vl,last,rfl,h1,h2,h3⟩:=h
 have hn:n=(hs++[vl]).length:=(Kd.N_reads' h1).1
 have hil:i.toNat=hs.length:=by
  rw[hi,List.length_append,List.length_singleton,h3.1];omega
 have hil2:i.toNat=ls.length:=by rw[hil,h3.1]
 have hi0:0≤i:=by rw[hi,List.length_append,List.length_singleton];omega
 obtain⟨g,cap,he,_,_,_⟩:=Kd.N_form h1 (by simp)
 injection he with hA _ _
 subst hA
 refine⟨⟨g,0,none⟩,hs,vl,rfl,by rw[hn];simp[h3.1],hil,by simp[h3.1],h1,?_,?_,?_⟩
 ·rw[hil2,List.getD_eq_getElem?_getD,List.getElem?_append_right (Nat.le_refl _)]
  simpa using h2
 ·rw[hil2,List.take_left];exact h3
 ·obtain⟨c',hcl,hK,hcc⟩:=Kd.N_get h1 vl i hi0 (by rw[hn,List.length_append,List.length_singleton];omega)
  have hg:(hs++[vl]).getD i.toNat vl=vl:=by
   rw[hil,List.getD_eq_getElem?_getD,List.getElem?_append_right (Nat.le_refl _)]
   simp
  rw[hg] at hK
  have hc':c'=[vl.1]:=Kd.FK_now hK
  have:=hcc 0 vl.1 (by rw[hc'];rfl)
  have hsz:KV.sz=1:=rfl
  rw[hsz,Nat.mul_one,Nat.add_zero] at this
  exact this
theorem NP_put {A:Option Addr} {n c:Nat} {i:Nat} {vl:RV} {vl':Value} (hv:vl'.oneCell'=true) {y:List α} (hi:i=hs.length) (hl:hs.length+1=l.length)
  (h1:Kd.N KV e w base (fun k=>ok k∧some k≠vl'.ownBlock) (.slice A n c) ((hs++[vl]).set i ⟨vl',hv⟩)) (h2:Kd.N d e2 w base (fun k=>ok k∧some k≠(Value.slice A n c).ownBlock) vl' y)
  (h3:FI d e2 w (fun k=>(ok k∧some k≠(Value.slice A n c).ownBlock)∧some k≠vl'.ownBlock) hs (l.take i)):NP d e2 e w base ok (.slice A n c) (l.set i y):=by
 refine⟨hs,l.take i,⟨vl',hv⟩,y,?_,?_,h2,h3⟩
 ·have:l.drop (i+1)=[]:=by rw[List.drop_eq_nil_iff];omega
  rw[List.set_eq_take_append_cons_drop,if_pos (by omega),this]
 ·rw[hi,List.set_append_right _ _ (Nat.le_refl _)] at h1
  simpa using h1
end
section
variable {α : Type} {d : Kd α} {e2 e base g : Nat} {W w1 : World} {ok : Nat → Prop} {v v1 u : Value} {l : List (List α)}
theorem NP_zng (h:NP d e2 e W base ok v l) (hg:W.grownBy w1 (some g)) (hk:∀ k,ok k→k≠g):Aside0 (NP d e2 e w1 base ok v l):=⟨NP_grown h hg (fun k hk2 he=>hk k hk2 (Option.some.inj he))⟩
end
end Go.Proofs.Ytapinanmmhdpcaa.MC
