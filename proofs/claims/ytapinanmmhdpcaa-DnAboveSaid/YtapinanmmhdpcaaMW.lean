import Derived.Test.YtapinanmmhdpcaaWMore
import Derived.Test.YtapinanmmhdpcaaWGuard
import Derived.Test.YtapinanmmhdpcaaWSized
import Derived.Test.YtapinanmmhdpcaaWRepsOne
import Derived.WalkSpells
import Derived.WalkMore
import Derived.ScopeJumps
import Derived.StillTailTactics
import Derived.BigRegion
import Derived.OrdersHeld
import Derived.WalkLawsBesides
namespace Go.Proofs.Ytapinanmmhdpcaa.MW
open Go.RowKit Go.Proofs.YtapinanmmhdpcaaW.PrintWords Go.Proofs.YtapinanmmhdpcaaW.PrintLast Go.Proofs.YtapinanmmhdpcaaW.PrintMore
set_option linter.unusedVariables false
/-- The walk stands still here; simp does not go in (what follows depends on it). -/
inductive Mark:Prop→Type where
 |mk (p:Prop):Mark p
structure Stop (p:Prop) (m:Mark p):Prop where
 out:p
theorem za {p:Prop} (h:p):Aside0 p:=⟨h⟩
theorem stop_ {p:Prop} (h:Stop p (.mk p)):p:=h.out
theorem Stop.go {p:Prop} {m:Mark p} (h:p):Stop p m:=⟨h⟩
theorem zg {p:Prop} {m:Mark p} (h:p):Stop p m:=⟨h⟩
section
variable {P : Program} {ops : Array Oper} {rest : List Oper} {o : Oper} {a : Act} {Q : Exit → Act → World → Prop}
/-- A store into a variable in memory (a block whose cells are known). -/
theorem ev_store {W:World} {g off:Nat} {cs:Array Value} {ty:TypeId} (cs':Array Value) {t:TypeId} {p x:Operand} (hgd:o.guard=none) (ho:o.op=.store t p x) (hN:o.dst=none)
  (hp:a.eval p=.pointer (some ⟨g,off,none⟩)) (hb:W.heap[g]? =some (.cells cs ty (0,0))) (seg:List Value) (hu:(a.eval x).cells.toList=seg) (ht:(P.info? t).map (·.size)=some seg.length)
  (hfit:off+seg.length≤cs.size) (h1:∀ q ∈ seg,q.oneCell'=true) (hcs:cs.toList.take off++seg++cs.toList.drop (off+seg.length)=cs'.toList)
  (h:∀ w1,w1.heap[g]? =some (.cells cs' ty (0,0))→W.grownBy w1 (some g)→wpList P ops Q rest a w1):wpList P ops Q (o::rest) a W:=by
 have hrun:=run_store_run (P:=P) t (a.eval x) seg hb hu ht hfit h1
 obtain⟨cur',h3,h4,h5⟩:=setCells_row seg off W cs hb hfit
 obtain⟨s1,s2,s3,s4⟩:=setCells_same g seg off W
 have hc:cur'=cs':=by
  apply Array.ext'
  rw[h5,hcs]
 subst hc
 refine wpList_plain hgd fun K hK=>?_
 have hr:(execOp a.eval o).run P W=.ok .skip (W.setCells g off seg):=by
  unfold execOp
  simp[ho,hp,hrun]
 unfold Oper.wp
 rw[hr]
 show K (a.put o.dst undef) _
 rw[hN]
 exact hK _ _ (h _ h3 ⟨s1,s2,s3,by rw[s4];exact Nat.le_refl _,fun k _ hk=>setCells_far _ _ k (fun he=>hk (by rw[he]))⟩)
/-- A call of a function value that is written out, in a plain region. -/
theorem goesV_ {oi:Oper} {w:World} (N:Option Tmp) (hd:oi.dst=N) (hg:oi.guard=none) {f:FuncId} {fn:Func} {x:Operand} {as:Array Operand} {ts:Array TypeId} (hf:P.funcs[f]? =some fn) (hname:(fn.name== "runtime.NumGoroutine")=false) (hb:fn.body.isSome=true) (args:Array Value)
  (hop:oi.op=.call {callee:=.value x,args:=as,argTypes:=ts}) (caps:Array Value) (hx:a.eval x=.func (.func f) #[] caps) (hargs:as.map a.eval++caps=args)
  (h:Calls P f args w fun e w'=>∃ v,e=.returned v∧wpList P ops Q rest (a.put N v) w'):wpList P ops Q (oi::rest) a w:=by
 refine wpList_plain hg fun K hK=>?_
 have he:=enters_ hf hname hb args w
 have hrun:(execOp a.eval oi).run P w=.ok (.enter f args) w:=by
  unfold execOp
  simp[hop,resolve,hx,Deferred.ofValue,invoke,hargs,he]
 unfold Oper.wp
 rw[hrun,Oper.upon_enter]
 refine h.mono fun e w'' hh=>?_
 obtain⟨v,rfl,hk⟩:=hh
 subst hd
 exact hK _ _ hk
end
namespace Kd
open Go.Proofs.YtapinanmmhdpcaaW.PrintWords.Kd
theorem FK_scalar {α :Type} (enc: α →Value) (h1:∀ x,(enc x).oneCell'=true) (W:World) (ok:Nat→Prop) (x: α):FK (scalar enc h1) W ok x [enc x]:=fun _ _=>rfl
end Kd
theorem bt_at' (s:ByteArray) (i:Int):∀ h:i.toNat<s.size,((s[i.toNat]'h).toNat:Int)=bt s i:=bt_at s i
theorem grown_below {W w1:World} (h:W.grownBy w1 none):Below W.heap.size W w1:=⟨h.os,h.tape,h.output,h.size,fun k hk=>h.block k hk (by simp)⟩
theorem base_of {W:World} {v1:Value} (h:∃ b,v1.ownBlock=some b∧W.heap.size≤b):∀ k,v1.ownBlock=some k→W.heap.size≤k:=by
 obtain⟨b,hb,hle⟩:=h
 intro k hk
 rw[hb] at hk
 injection hk with hk
 omega
theorem drawn {P:Program} {f:FuncId} {args:Array Value} {w:World} {v:Value} (h:Calls P f args w fun e w'=>e=.returned v∧Drawn0 w w'):Calls P f args w fun e w'=>e=.returned v∧∃ m,w'=w.drewN m:=
 h.mono fun _ _ ⟨he,hd⟩=>⟨he,hd.out⟩
theorem quiet_far {P:Program} {f:FuncId} {args:Array Value} {w:World} {m0 n:Nat} {v:Value} (h:Calls P f args (w.drewN (m0+n)) fun e w'=>e=.returned v∧∃ m,w'=(w.drewN (m0+n)).drewN m):Calls P f args (w.drewN (m0+n)) fun e w''=>e=.returned v∧∃ m,w''=w.drewN (m0+m):=
 h.mono fun _ _ ⟨he,m,hm⟩=>⟨he,n+m,by rw[hm,World.drewN_drewN,Nat.add_assoc]⟩
theorem jump_mono {P:Program} {c:Code} {Q Q':Exit→Act→World→Prop} {a:Act} {w:World} (h:c.wp P Q a w) (hQ:∀ e a w,Q e a w→Q' e a w):c.wp P Q' a w:=by
 intro b k cs
 obtain⟨e,a₁,w₁,hq,harr⟩:=h b k cs
 exact⟨e,a₁,w₁,hQ _ _ _ hq,harr⟩
/-- A world that has drawn gets a name. -/
theorem name_world {P:Program} {c:Code} {Q:Exit→Act→World→Prop} {a:Act} {W0 W:World} (hd:Drawn0 W0 W) (h:∀ w1,Below W0.heap.size W0 w1→c.wp P Q a w1):c.wp P Q a W:=by
 obtain⟨m,rfl⟩:=hd.out
 exact h _ (pw_below_drewN (Below.refl _ _) m)
/-! ### a region whose order is drawn, walked by what may come first -/
section
variable {P : Program} {ops : Array Oper} {Q : Exit → Act → World → Prop} {md : Region.Mode}
theorem any_take {i:Nat} {oi:Oper} {v:Value} {fuel:Nat} {listed listed':Array Bool} {a a':Act} {w:World} (hi:ops[i]? =some oi)
  (hs:Region.noSelect ops=true) (hf:Region.free md ops listed i=true) (hr:(Region.ready md ops listed).contains i=true)
  (hQ:∀ c a w,Q (.panic c) (a.put oi.dst v) w→Q (.panic c) a w) (hy:Yields P ops oi v a) (hl:listed.setIfInBounds i true=listed') (ha:a.put oi.dst v=a')
  (h:wpAny P md ops Q fuel listed' a' w):wpAny P md ops Q (fuel+1) listed a w:=
 wpAny_take hi hs hf hr hQ hy (by rw[hl,ha];exact h)
theorem any_seq {L:List Oper} (k n:Nat) {listed:Array Bool} {a:Act} {w:World} (hn:(L.drop k).length=n) (hB:Region.seqB md L.toArray n k listed=true) (h:wpList P L.toArray Q (L.drop k) a w):wpAny P md L.toArray Q n listed a w:=by
 subst hn
 exact wpAny_of_seq (L.drop k) k listed a w (fun j=>by simp[List.getElem?_drop]) hB h
end
/-! ### scopes with labels -/
/-- From label l of the scope's code c on, the run comes to Q. -/
def Lab (P:Program) (c:Code) (Q:Exit→Act→World→Prop) (l:Nat) (a:Act) (w:World):Prop:=
 ∃ rest,findLabel c l=some rest∧∀ b k cs,∃ e a' w',Q e a' w'∧Arrives P (lone (b.at a (.code rest::.inScope c::k)) cs w) b k cs e a' w'
def labs (P:Program) (c:Code) (Q:Exit→Act→World→Prop):Exit→Act→World→Prop
 |.goto l,a,w=>Lab P c Q l a w
 |e,a,w=>Q e a w
def backTo (l:Nat) (K:Act→World→Prop) (Q:Exit→Act→World→Prop):Exit→Act→World→Prop
 |.goto l',a,w=>(l'=l∧K a w)∨Q (.goto l') a w
 |e,a,w=>Q e a w
section
variable {P : Program} {c rest : Code} {a : Act} {w : World} {Q : Exit → Act → World → Prop} {K : Act → World → Prop} {l : Nat}
@[go_sem] theorem labs_normal : labs P c Q .normal a w = Q .normal a w := rfl
@[go_sem] theorem labs_exit (id : Nat) : labs P c Q (.exit id) a w = Q (.exit id) a w := rfl
@[go_sem] theorem labs_ret : labs P c Q .ret a w = Q .ret a w := rfl
@[go_sem] theorem labs_panic (ch : List PanicEntry) : labs P c Q (.panic ch) a w = Q (.panic ch) a w := rfl
@[go_sem] theorem backTo_normal : backTo l K Q .normal a w = Q .normal a w := rfl
@[go_sem] theorem backTo_exit (id : Nat) : backTo l K Q (.exit id) a w = Q (.exit id) a w := rfl
@[go_sem] theorem backTo_ret : backTo l K Q .ret a w = Q .ret a w := rfl
@[go_sem] theorem backTo_panic (ch : List PanicEntry) : backTo l K Q (.panic ch) a w = Q (.panic ch) a w := rfl
theorem gotoIn_here {k:List Item} (hf:findLabel c l=some rest):gotoIn l (.inScope c::k)=some (.code rest::.inScope c::k):=by simp[gotoIn,hf]
theorem scope_labs (h:c.wp P (labs P c Q) a w):(Code.scope c).wp P Q a w:=by
 intro b k cs
 obtain⟨e,a₁,w₁,hq,harr⟩:=h b (.inScope c::k) cs
 cases e with
 |normal=>exact⟨.normal,a₁,w₁,hq,.head step_scope (Steps.trans harr (.one step_inScope))⟩
 |exit id=>exact⟨.exit id,a₁,w₁,hq,fun k' hk=>.head step_scope (harr k' (by simp[exitTo,hk]))⟩
 |goto l'=>
  obtain⟨rest',hf',h'⟩:=hq
  obtain⟨e₂,a₂,w₂,hq₂,harr₂⟩:=h' b k cs
  exact⟨e₂,a₂,w₂,hq₂,.of_steps (.head step_scope (harr _ (gotoIn_here hf'))) harr₂⟩
 |ret=>exact⟨_,a₁,w₁,hq,.of_steps (.one step_scope) harr⟩
 |panic ch=>exact⟨_,a₁,w₁,hq,.of_steps (.one step_scope) harr⟩
 |outgrown=>exact⟨_,a₁,w₁,hq,.of_steps (.one step_scope) harr⟩
theorem lab_go (hf:findLabel c l=some rest) (h:rest.wp P (labs P c Q) a w):Lab P c Q l a w:=by
 refine⟨rest,hf,fun b k cs=>?_⟩
 obtain⟨e,a₁,w₁,hq,harr⟩:=h b (.inScope c::k) cs
 cases e with
 |normal=>exact⟨.normal,a₁,w₁,hq,Steps.trans harr (.one step_inScope)⟩
 |exit id=>exact⟨.exit id,a₁,w₁,hq,fun k' hk=>harr k' (by simp[exitTo,hk])⟩
 |goto l'=>
  obtain⟨rest',hf',h'⟩:=hq
  obtain⟨e₂,a₂,w₂,hq₂,harr₂⟩:=h' b k cs
  exact⟨e₂,a₂,w₂,hq₂,.of_steps (harr _ (gotoIn_here hf')) harr₂⟩
 |ret=>exact⟨_,a₁,w₁,hq,harr⟩
 |panic ch=>exact⟨_,a₁,w₁,hq,harr⟩
 |outgrown=>exact⟨_,a₁,w₁,hq,harr⟩
/-- A label at the end of a scope's code to which the run comes back: as a loop whose relation bears a number. -/
theorem lab_loop {x:Code} {K':Act→World→Prop} {Q':Exit→Act→World→Prop} (l:Nat) (hK:∀ a w,x.wp P (labs P c Q) a w→K' a w) (hf:findLabel c l=some (Code.skip.seq x)) (I:Nat→Act→World→Prop) (n₀:Nat) (h₀:I n₀ a w)
  (round:∀ n a w,I n a w→∀ (J:Nat→Act→World→Prop) (K:Act→World→Prop),(∀ k a' w',I k a' w'→J k a' w')→(∀ a' w',Handed J n a' w'→K a' w')→x.wp P (backTo l K (labs P c Q)) a w):(Code.label l).wp P (Exit.then K' Q') a w:=by
 have key:∀ n a w,I n a w→x.wp P (labs P c Q) a w:=by
  intro n
  induction n using Nat.strongRecOn with
  |_ n ih=>
   intro a w hI
   refine jump_mono (round n a w hI I _ (fun _ _ _ q=>q) fun _ _ q=>q) ?_
   intro e a' w' h
   cases e with
   |goto l'=>
    rcases h with⟨rfl,n',hlt,hI'⟩|h
    ·exact lab_go hf (wp_seq (wp_skip (ih n' hlt a' w' hI')))
    ·exact h
   |normal=>exact h
   |exit id=>exact h
   |ret=>exact h
   |panic ch=>exact h
   |outgrown=>exact h
 exact wp_label (hK _ _ (key n₀ a w h₀))
theorem goto_back (h:K a w):backTo l K Q (.goto l) a w:=.inl ⟨rfl,h⟩
end
/-! ### a store into an element of a row of the call's own -/
section
variable {P : Program} {ops : Array Oper} {rest : List Oper} {o : Oper} {a : Act} {Q : Exit → Act → World → Prop}
open Go.Proofs.YtapinanmmhdpcaaW.PrintWords.Kd
theorem ev_set1 {α :Type} {enc: α →Value} {h1:∀ x,(enc x).oneCell'=true} {w0 W:World} (base:Nat) (hN:o.dst=none) (hgd:o.guard=none) (t:TypeId) (p x:Operand) (ho:o.op=.store t p x) (e:TypeId) {ad:Addr} {n cap:Nat} (i:Int) (xs:List α) (x': α) (ok:Nat→Prop)
  (haddr:a.eval p=.pointer (some (ad.add i.toNat))) (hx:a.eval x=enc x') (ht:(P.info? t).map (·.size)=some 1)
  (HO:Kd.N (Kd.scalar enc h1) e W base ok (.slice (some ad) n cap) xs) (h0:0≤i) (hi:i<n) (HB:Below base w0 W)
  (h:∀ w1,Kd.N (Kd.scalar enc h1) e w1 base ok (.slice (some ad) n cap) (xs.set i.toNat x')→Below base w0 w1→W.grownBy w1 (Value.slice (some ad) n cap).ownBlock→wpList P ops Q rest a w1):wpList P ops Q (o::rest) a W:=by
 obtain⟨g,rfl⟩:∃ g,ad=⟨g,0,none⟩:=by
  obtain⟨_,rows,_,hR,_⟩:=HO
  exact R_head hR
 obtain⟨c,hcl,_,hcc,_⟩:=Kd.N_elem HO x' i h0 hi
 have hu:(enc x').cells.toList=[enc x']:=by
  have:=h1 x'
  cases hv:enc x' <;>simp_all [Value.oneCell',Value.cells]
 have h1':∀ q ∈ [enc x'],q.oneCell'=true:=by
  intro q hq
  simp at hq
  rw[hq]
  exact h1 x'
 have hds:(Kd.scalar enc h1).sz=1:=rfl
 refine Kd.N_store (Kd.scalar enc h1) base hN hgd t p x ho e i 0 xs x' (enc x') [enc x'] c ok (fun _=>False) (o':=i.toNat) ?_ (by rw[hds];omega) hx hu ht h1' HO h0 hi hcl hcc (by rw[hds];simp) ?_ (fun _ hk=>hk.elim) HB ?_
 ·rw[haddr,add_at,Nat.zero_add]
 ·have:List.take 0 c++[enc x']++List.drop (0+[enc x'].length) c=[enc x']:=by
   have hl:c.length=1:=hcl
   match c,hl with
   |[q],_=>rfl
  rw[this]
  exact Kd.FK_scalar enc h1 _ _ _
 ·intro w1 hn hb hg
  exact h w1 hn hb (by simpa [Value.ownBlock] using hg)
end
/-! ### own[lo:hi:m] -/
namespace Kd
open Go.Proofs.YtapinanmmhdpcaaW.PrintWords.Kd
end Kd
theorem hpos {α :Type} {c:Prop} [Decidable c] {a b x: α} (h:Aside0 ((if c then a else b)=x)) (hc:c):Aside0 (a=x):=⟨by have:=h.out;rwa [if_pos hc] at this⟩
theorem hneg {α :Type} {c:Prop} [Decidable c] {a b x: α} (h:Aside0 ((if c then a else b)=x)) (hc: ¬ c):Aside0 (b=x):=⟨by have:=h.out;rwa [if_neg hc] at this⟩
/-! ### short forms -/
section
variable {P : Program} {ops : Array Oper} {rest : List Oper} {o : Oper} {a : Act} {Q : Exit → Act → World → Prop} {W : World}
theorem gd (N:Tmp) (_hN:o.dst=some N) (h:wpList P ops Q (o::rest) a W):wpList P ops Q (o::rest) a W:=h
theorem gs (t:TypeId) (p:Tmp) {v:Operand} (_ho:o.op=.store t (.tmp p) v) (h:wpList P ops Q (o::rest) a W):wpList P ops Q (o::rest) a W:=h
theorem gc (f:FuncId) {as_:Array Operand} {ts:Array TypeId} (_ho:o.op=.call {callee:=.value (.func f),args:=as_,argTypes:=ts}) (h:wpList P ops Q (o::rest) a W):wpList P ops Q (o::rest) a W:=h
theorem zs (t:TypeId) (p:Tmp) {x:Operand} {g off:Nat} {cs:Array Value} {ty:TypeId} (cs':Array Value) (hb:W.heap[g]? =some (.cells cs ty (0,0))) (seg:List Value)
  (hh:o.op=.store t (.tmp p) x∧Region.wanted o (yielded ops a.tmps)=true∧o.dst=none∧a.eval (.tmp p)=.pointer (some ⟨g,off,none⟩)∧(a.eval x).cells.toList=seg∧(P.info? t).map (·.size)=some seg.length∧
   off+seg.length≤cs.size∧(∀ q ∈ seg,q.oneCell'=true)∧cs.toList.take off++seg++cs.toList.drop (off+seg.length)=cs'.toList:=by refine⟨rfl,rfl,rfl,rfl,rfl,by kernel_rfl,by simp,by simp[Value.oneCell'],rfl⟩)
  (h:∀ w1,Aside0 (w1.heap[g]? =some (.cells cs' ty (0,0)))→W.grownBy w1 (some g)→Stop (wpList P ops Q rest a w1) (.mk _)):wpList P ops Q (o::rest) a W:=
 gate_guard hh.2.1 (ev_store (o:={o with guard:=none}) cs' rfl hh.1 hh.2.2.1 hh.2.2.2.1 hb seg hh.2.2.2.2.1 hh.2.2.2.2.2.1 hh.2.2.2.2.2.2.1 hh.2.2.2.2.2.2.2.1 hh.2.2.2.2.2.2.2.2 fun w1 h2 h3=>(h w1 ⟨h2⟩ h3).out)
theorem zb (N:Tmp) (t:TypeId) (cs:Array Value)
  (hh:o.dst=some N∧Region.wanted o (yielded ops a.tmps)=true∧(execOp a.eval {o with guard:=none}).run P W=.ok (.value (.pointer (some ⟨W.heap.size,0,none⟩))) (W.alloc (.cells cs t (0,0))):=by refine⟨rfl,rfl,?_⟩;first|(go_simp;done)|(go_simp;rfl))
  (h:∀ g,Aside0 (g=W.heap.size)→∀ w1,Aside0 (w1.heap[g]? =some (.cells cs t (0,0)))→Below W.heap.size W w1→Stop (wpList P ops Q rest (a.put (some N) (.pointer (some ⟨g,0,none⟩))) w1) (.mk _)):wpList P ops Q (o::rest) a W:=
 gate_guard hh.2.1 (box_event (o:={o with guard:=none}) rfl hh.1 hh.2.2 fun g hg w1 h2 h3=>by
  have h4:=(h g ⟨hg⟩ w1 ⟨h2⟩ h3).out
  rw[← hh.1] at h4
  exact h4)
theorem zc (f:FuncId) (N:Option Tmp) {fn:Func} {as:Array Operand} {ts:Array TypeId} (hf:P.funcs[f]? =some fn) (args:Array Value)
  (hh:o.op=.call {callee:=.value (.func f),args:=as,argTypes:=ts}∧Region.wanted o (yielded ops a.tmps)=true∧o.dst=N∧(fn.name== "runtime.NumGoroutine")=false∧fn.body.isSome=true∧as.map a.eval=args:=by
   refine⟨rfl,rfl,rfl,by kernel_rfl,rfl,?_⟩;(try simp only[List.map_toArray,List.map_cons,List.map_nil]);first|done|rfl|(simp only[List.length_drop,List.length_take];rfl))
  (h:Calls P f args W fun e w'=>∃ v,e=.returned v∧Stop (wpList P ops Q rest (a.put N v) w') (.mk _)):wpList P ops Q (o::rest) a W:=
 gate_guard hh.2.1 (goesL_ (oi:={o with guard:=none}) N hh.2.2.1 rfl hf hh.2.2.2.1 hh.2.2.2.2.1 args hh.1 hh.2.2.2.2.2 (h.mono fun _ _ hv=>by
  obtain⟨v,h1,h2⟩:=hv
  exact⟨v,h1,h2.out⟩))
theorem zv (N:Tmp) {f:FuncId} {fn:Func} {x:Operand} {as:Array Operand} {ts:Array TypeId} (hf:P.funcs[f]? =some fn) (args caps:Array Value)
  (hh:o.dst=some N∧Region.wanted o (yielded ops a.tmps)=true∧o.op=.call {callee:=.value x,args:=as,argTypes:=ts}∧(fn.name== "runtime.NumGoroutine")=false∧fn.body.isSome=true∧a.eval x=.func (.func f) #[] caps∧as.map a.eval++caps=args:=by
   refine⟨rfl,rfl,rfl,by kernel_rfl,rfl,rfl,?_⟩;(try simp only[List.map_toArray,List.map_cons,List.map_nil,List.append_toArray,List.cons_append,List.nil_append,List.append_nil]);first|done|rfl|(simp only[List.length_drop,List.length_take];rfl))
  (h:Calls P f args W fun e w'=>∃ v,e=.returned v∧Stop (wpList P ops Q rest (a.put (some N) v) w') (.mk _)):wpList P ops Q (o::rest) a W:=
 gate_guard hh.2.1 (goesV_ (oi:={o with guard:=none}) (some N) hh.1 rfl hf hh.2.2.2.1 hh.2.2.2.2.1 args hh.2.2.1 caps hh.2.2.2.2.2.1 hh.2.2.2.2.2.2 (h.mono fun _ _ hv=>by
  obtain⟨v,h1,h2⟩:=hv
  exact⟨v,h1,h2.out⟩))
end
section
variable {P : Program} {ops : Array Oper} {Q : Exit → Act → World → Prop} {md : Region.Mode}
theorem zt (i:Nat) (v:Value) (listed':Array Bool) (a':Act) {oi:Oper} {fuel:Nat} {listed:Array Bool} {a:Act} {w:World}
  (hh:ops[i]? =some oi∧Region.noSelect ops=true∧Region.free md ops listed i=true∧(Region.ready md ops listed).contains i=true∧(∀ c a w,Q (.panic c) (a.put oi.dst v) w→Q (.panic c) a w)∧Yields P ops oi v a∧listed.setIfInBounds i true=listed'∧a.put oi.dst v=a':=by
   refine⟨rfl,by kernel_rfl,by kernel_rfl,by kernel_rfl,fun _ _ _ h_=>h_,.inl ⟨by kernel_rfl,fun _=>by first|rfl|(go_simp;done)|(go_simp;rfl)⟩,rfl,rfl⟩)
  (h:wpAny P md ops Q fuel listed' a' w):wpAny P md ops Q (fuel+1) listed a w:=any_take hh.1 hh.2.1 hh.2.2.1 hh.2.2.2.1 hh.2.2.2.2.1 hh.2.2.2.2.2.1 hh.2.2.2.2.2.2.1 hh.2.2.2.2.2.2.2 h
end
theorem zfi {α :Type} {e v: α} {p:Prop} (hb:p) (he:e=v:=by first|rfl|(simp;done)|(simp[*];done)):e=v∧p:=⟨he,hb⟩
section
variable {α : Type} {a b x : α} {r : Option α}
theorem zd {β :Type} {y:Option β} {f: β →Option α} (h:Aside0 (y.bind f=some x)):∃ t,Aside0 (y=some t)∧Aside0 (f t=some x):=by
 obtain⟨t,h1,h2⟩:=Option.bind_eq_some_iff.1 h.out
 exact⟨t,⟨h1⟩,⟨h2⟩⟩
theorem zqq {c p q p' q':Prop} [Decidable c] (hy:c→p∧q) (hn: ¬ c→p'∧q') (h:Aside0 ((if c then a else b)=x)):(Aside0 (a=x)∧p∧q)∨(Aside0 (b=x)∧p'∧q'):=by
 by_cases hc:c
 ·exact .inl ⟨hpos h hc,hy hc⟩
 ·exact .inr ⟨hneg h hc,hn hc⟩
theorem zqo {c p q:Prop} [Decidable c] {y:Option α} (hy:c→p∧q) (h:Aside0 ((if c then y else none)=some x)):Aside0 (y=some x)∧p∧q:=by
 by_cases hc:c
 ·exact⟨hpos h hc,hy hc⟩
 ·exact absurd (hneg h hc).out (by simp)
theorem zq1 {c p p':Prop} [Decidable c] (hy:c→p) (hn: ¬ c→p') (h:Aside0 ((if c then a else b)=x)):(Aside0 (a=x)∧p)∨(Aside0 (b=x)∧p'):=by
 by_cases hc:c
 ·exact .inl ⟨hpos h hc,hy hc⟩
 ·exact .inr ⟨hneg h hc,hn hc⟩
theorem zqo1 {c p:Prop} [Decidable c] {y:Option α} (hy:c→p) (h:Aside0 ((if c then y else none)=some x)):Aside0 (y=some x)∧p:=by
 by_cases hc:c
 ·exact⟨hpos h hc,hy hc⟩
 ·exact absurd (hneg h hc).out (by simp)
end
section
variable {α : Type} {a b x : α} {y : Option α} {i j : Int} {n : Nat}
theorem zlm {c:Prop} [Decidable c] (h:Aside0 ((if c then y else none)=some x)):Aside0 (y=some x)∧Aside0 c:=zqo1 (fun c=>⟨c⟩) h
/-- an equation of numbers, of texts -/
theorem zqe {β :Type} [BEq β] [LawfulBEq β] {i j: β} [Decidable (i=j)] (h:Aside0 ((if i=j then a else b)=x)):(Aside0 (a=x)∧(i==j)=true∧(i != j)=false)∨(Aside0 (b=x)∧(i==j)=false∧(i != j)=true):=
 zqq (fun c=>⟨beq_iff_eq.mpr c,bne_eq_false_iff_eq.mpr c⟩) (fun c=>⟨beq_eq_false_iff_ne.mpr c,bne_iff_ne.mpr c⟩) h
/-- a test as it stands -/
theorem zqd {c:Prop} [Decidable c] (h:Aside0 ((if c then a else b)=x)):(Aside0 (a=x)∧decide c=true)∨(Aside0 (b=x)∧decide c=false):=zq1 decide_eq_true decide_eq_false h
theorem zqdo {c:Prop} [Decidable c] (h:Aside0 ((if c then y else none)=some x)):Aside0 (y=some x)∧decide c=true:=zqo1 decide_eq_true h
theorem zqt {c:Prop} [Decidable c] (h:Aside0 ((if c then a else b)=x)):(Aside0 (a=x)∧c=True∧decide c=true)∨(Aside0 (b=x)∧c=False∧decide c=false):=
 zqq (fun c=>⟨eq_true c,decide_eq_true c⟩) (fun c=>⟨eq_false c,decide_eq_false c⟩) h
theorem zqto {c:Prop} [Decidable c] (h:Aside0 ((if c then y else none)=some x)):Aside0 (y=some x)∧c=True∧decide c=true:=zqo (fun c=>⟨eq_true c,decide_eq_true c⟩) h
/-- 'greater', 'not less': as the walk asks it -/
theorem zqg [Decidable (i>j)] (h:Aside0 ((if i>j then a else b)=x)):(Aside0 (a=x)∧decide (j<i)=true)∨(Aside0 (b=x)∧decide (j<i)=false):=zq1 (fun c=>decide_eq_true c) (fun c=>decide_eq_false c) h
theorem zqG [Decidable (i≥j)] (h:Aside0 ((if i≥j then a else b)=x)):(Aside0 (a=x)∧decide (j≤i)=true)∨(Aside0 (b=x)∧decide (j≤i)=false):=zq1 (fun c=>decide_eq_true c) (fun c=>decide_eq_false c) h
/-- a number written out and a length: of natural numbers, too -/
theorem zqn (m:Nat) [Decidable (i<(n:Int))] (h:Aside0 ((if i<(n:Int) then a else b)=x)) (hm:i=(m:Int):=by rfl):(Aside0 (a=x)∧(i<(n:Int))=True∧(m<n)=True∧decide (i<(n:Int))=true∧decide (m<n)=true)∨(Aside0 (b=x)∧(i<(n:Int))=False∧(m<n)=False∧decide (i<(n:Int))=false∧decide (m<n)=false):=by
 subst hm
 by_cases hc:(m:Int)<(n:Int)
 ·have h2:m<n:=by omega
  exact .inl ⟨hpos h hc,eq_true hc,eq_true h2,decide_eq_true hc,decide_eq_true h2⟩
 ·have h2: ¬ m<n:=by omega
  exact .inr ⟨hneg h hc,eq_false hc,eq_false h2,decide_eq_false hc,decide_eq_false h2⟩
theorem zqno (m:Nat) [Decidable (i<(n:Int))] (h:Aside0 ((if i<(n:Int) then y else none)=some x)) (hm:i=(m:Int):=by rfl):Aside0 (y=some x)∧(i<(n:Int))=True∧(m<n)=True∧decide (i<(n:Int))=true∧decide (m<n)=true:=by
 rcases zqn m h hm with h|h
 ·exact h
 ·exact absurd h.1.out (by simp)
theorem zqlo (m:Nat) [Decidable (i≤(n:Int))] (h:Aside0 ((if i≤(n:Int) then y else none)=some x)) (hm:i=(m:Int):=by rfl):Aside0 (y=some x)∧decide (i≤(n:Int))=true∧decide (m≤n)=true:=by
 subst hm
 exact zqo (fun c=>⟨decide_eq_true c,decide_eq_true (by omega)⟩) h
/-- a length and a number written out -/
theorem zqN (m:Nat) [Decidable ((n:Int)<i)] (h:Aside0 ((if (n:Int)<i then a else b)=x)) (hm:i=(m:Int):=by rfl):(Aside0 (a=x)∧((n:Int)<i)=True∧decide ((n:Int)<i)=true∧decide (n<m)=true)∨(Aside0 (b=x)∧((n:Int)<i)=False∧decide ((n:Int)<i)=false∧decide (n<m)=false):=by
 subst hm
 by_cases hc:(n:Int)<(m:Int)
 ·have h2:n<m:=by omega
  exact .inl ⟨hpos h hc,eq_true hc,decide_eq_true hc,decide_eq_true h2⟩
 ·have h2: ¬ n<m:=by omega
  exact .inr ⟨hneg h hc,eq_false hc,decide_eq_false hc,decide_eq_false h2⟩
theorem zqK (m:Nat) [Decidable ((n:Int)>i)] (h:Aside0 ((if (n:Int)>i then a else b)=x)) (hm:i=(m:Int):=by rfl):(Aside0 (a=x)∧decide (i<(n:Int))=true∧decide (m<n)=true)∨(Aside0 (b=x)∧decide (i<(n:Int))=false∧decide (m<n)=false):=by
 subst hm
 exact zqq (fun c=>⟨decide_eq_true c,decide_eq_true (by omega)⟩) (fun c=>⟨decide_eq_false c,decide_eq_false (by omega)⟩) h
end
section
variable {α : Type} {d : Kd α} {W w1 : World} {ok : Nat → Prop} {A : Option Addr} {n : Nat} {l : List α} {g g2 E base b : Nat} {v v1 u : Value} {o2 : Obj} {r : Option Nat}
open Go.Proofs.YtapinanmmhdpcaaW.PrintWords.Kd
theorem zcl {p:Addr} {x:Value} (h:W.cell? p=some x) (hb:Below W.heap.size W w1):w1.cell? p=some x:=by
 have hlt:p.block<W.heap.size:=by
  rcases Nat.lt_or_ge p.block W.heap.size with h'|h'
  ·exact h'
  ·simp[World.cell?,Array.getElem?_eq_none h'] at h
 unfold World.cell? at h ⊢
 rw[hb.block _ hlt]
 exact h
theorem zfe (h:Kd.F d W ok A n l) (hg:Aside0 (g=W.heap.size)) (hb:Below W.heap.size W w1):Aside0 (Kd.F d w1 (fun k=>ok k∧k≠g) A n l):=⟨Kd.F_below (Kd.F_elderB h g (Nat.le_of_eq hg.out.symm)) hb⟩
theorem zne (h:Kd.N d E W base ok v l) (hg:Aside0 (g=W.heap.size)) (hb:Below W.heap.size W w1):Aside0 (Kd.N d E w1 base (fun k=>ok k∧k≠g) v l):=⟨Kd.N_below (Kd.N_elderB h g (Nat.le_of_eq hg.out.symm)) hb⟩
theorem zfb (h:Kd.F d W ok A n l) (hb:Below W.heap.size W w1):Aside0 (Kd.F d w1 ok A n l):=⟨Kd.F_below h hb⟩
theorem znb (h:Kd.N d E W base ok v l) (hb:Below W.heap.size W w1):Aside0 (Kd.N d E w1 base ok v l):=⟨Kd.N_below h hb⟩
theorem zbb (h:W.heap[g]? =some o2) (hb:Below W.heap.size W w1):Aside0 (w1.heap[g]? =some o2):=⟨blk_below h hb⟩
theorem zhb {w:World} (h:Below w.heap.size w W) (hb:Below W.heap.size W w1):Aside0 (Below w.heap.size w w1):=⟨below_step h hb⟩
theorem zfg (h:Kd.F d W ok A n l) (hg:W.grownBy w1 (some g)) (hk:∀ k,ok k→k≠g):Aside0 (Kd.F d w1 ok A n l):=⟨Kd.F_grown h hg (fun k hk2 he=>hk k hk2 (Option.some.inj he))⟩
theorem zng (h:Kd.N d E W base ok v l) (hg:W.grownBy w1 (some g)) (hk:∀ k,ok k→k≠g):Aside0 (Kd.N d E w1 base ok v l):=⟨Kd.N_grown h hg (fun k hk2 he=>hk k hk2 (Option.some.inj he))⟩
theorem zbg (h:W.heap[g2]? =some o2) (hg:W.grownBy w1 (some g)) (hn:Aside0 (g2≠g)):Aside0 (w1.heap[g2]? =some o2):=⟨blk_grown h hg (fun he=>hn.out (Option.some.inj he))⟩
theorem zhg {w:World} (h:Below b w W) (hg:W.grownBy w1 (some g)) (hs:b≤W.heap.size) (ge:Aside0 (b≤g)):Aside0 (Below b w w1):=⟨Below.grown h hg hs (fun k hk=>by injection hk with hk;rw[← hk];exact ge.out)⟩
theorem zge (hg:Aside0 (g=W.heap.size)) (h:b≤W.heap.size):Aside0 (b≤g):=⟨by rw[hg.out];exact h⟩
theorem znq (hg:Aside0 (g=W.heap.size)) (h:W.heap[g2]? =some o2):Aside0 (g2≠g):=⟨by rw[hg.out];exact Nat.ne_of_lt (blk_lt h)⟩
theorem zsy {a b:Nat} (h:Aside0 (a≠b)):Aside0 (b≠a):=⟨h.out.symm⟩
theorem zfr (h:Kd.F d W ok A n l) (hbase:∀ k,v.ownBlock=some k→W.heap.size≤k) (hb:Below W.heap.size W w1):Aside0 (Kd.F d w1 (fun k=>ok k∧some k≠v.ownBlock) A n l):=⟨Kd.F_elder' h hbase hb⟩
theorem znr (h:Kd.N d E W base ok v l) (hbase:∀ k,u.ownBlock=some k→W.heap.size≤k) (hb:Below W.heap.size W w1):Aside0 (Kd.N d E w1 base (fun k=>ok k∧some k≠u.ownBlock) v l):=⟨Kd.N_elder' h hbase hb⟩
theorem zfp {P:Nat→Prop} (h:Kd.F d W P A n l):Aside0 (Kd.F d W (fun k=>P k∨W.heap.size≤k) A n l):=⟨Kd.F_mono h (fun _ hk=>.inl hk)⟩
theorem znl {ok2:Nat→Prop} {b':Nat} (h:Kd.N d E W base ok v l) (hb:b'≤base) (hk:∀ k,ok k→ok2 k):Aside0 (Kd.N d E W b' ok2 v l):=⟨Kd.N_mono (Kd.N_lower h hb) hk⟩
end
end Go.Proofs.Ytapinanmmhdpcaa.MW
