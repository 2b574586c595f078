import Derived.Test.YtapinanmmhdpcaaMW
namespace Go.Proofs.Ytapinanmmhdpcaa.MW
open Go.RowKit Go.Proofs.YtapinanmmhdpcaaW.PrintWords Go.Proofs.YtapinanmmhdpcaaW.PrintLast Go.Proofs.YtapinanmmhdpcaaW.PrintMore
set_option linter.unusedVariables false
/-! ### a long region, in parts -/
section
variable {P : Program} {ops : Array Oper} {Q : Exit → Act → World → Prop}
theorem upon_then {o:Oper} {a:Act} {K next:Act→World→Prop}:∀ {r:Result Next},o.upon P a next (Exit.then K Q) r→o.upon P a next Q r
 |.ok (.value _) _,h=>h
 |.ok .skip _,h=>h
 |.ok (.defer _) _,h=>h
 |.ok (.enter _ _) _,h=>h
 |.ok (.row _ _) _,h=>h
 |.halt _ _,h=>by
  unfold Oper.upon at h ⊢
  split at h <;>first|exact h|exact h.elim
theorem bind_step {α β :Type} {x b: α} {f: α →Option β} {r: β} (h:(some x).bind f=some r) (e:b=x):f b=some r:=by
 subst e
 exact h
theorem list_append {l2:List Oper}:∀ (l1:List Oper) (a:Act) (w:World),wpList P ops (Exit.then (fun a w=>wpList P ops Q l2 a w) Q) l1 a w→wpList P ops Q (l1++l2) a w
 |[],_,_,h=>h
 |o::l1,a,w,h=>by
  unfold wpList at h
  show wpList P ops Q (o::(l1++l2)) a w
  unfold wpList
  split at h
  ·rename_i hw
   rw[if_pos hw]
   rcases h with h|h
   ·exact .inl (Oper.wp_mono (fun a w h=>list_append l1 a w h) (upon_then h))
   ·exact .inr ⟨h.1,h.2⟩
  ·rename_i hw
   rw[if_neg hw]
   exact list_append l1 _ _ h
theorem any_act {md:Region.Mode} {i:Nat} {oi:Oper} {fuel:Nat} {listed listed':Array Bool} {a:Act} {w:World} (hi:ops[i]? =some oi) (hr:Region.ready md ops listed=[i]) (hl:listed.setIfInBounds i true=listed')
  (h:wpList P ops (Exit.then (fun a w=>wpAny P md ops Q fuel listed' a w) Q) [oi] a w):wpAny P md ops Q (fuel+1) listed a w:=by
 refine wpAny_all hr (by simp) fun j hj=>?_
 have hj':j=i:=by simpa using hj
 subst hj'
 subst hl
 unfold wpOp
 simp only[hi]
 unfold wpList at h
 split at h
 ·rename_i hw
  rw[if_pos hw]
  rcases h with h|h
  ·exact .inl (Oper.wp_mono (fun a w h=>h) (upon_then h))
  ·exact .inr ⟨h.1,h.2⟩
 ·rename_i hw
  rw[if_neg hw]
  exact h
theorem chain_do {o:Oper} {rest:List Oper} {a:Act} {w:World} {v:Value} (hw:Region.wanted o (yielded ops a.tmps)=true) (hrun:(execOp a.eval o).run P w=.ok (.value v) w) (h:wpList P ops Q rest (a.put o.dst v) w):wpList P ops Q (o::rest) a w:=by
 unfold wpList
 rw[if_pos hw]
 refine .inl ?_
 unfold Oper.wp
 rw[hrun]
 exact h
theorem chain_skip {o:Oper} {rest:List Oper} {a:Act} {w:World} (hw:Region.wanted o (yielded ops a.tmps)=false) (h:wpList P ops Q rest (a.put o.dst undef) w):wpList P ops Q (o::rest) a w:=by
 unfold wpList
 rw[if_neg (by rw[hw];exact Bool.false_ne_true)]
 exact h
theorem list_cut (n:Nat) {l:List Oper} {a:Act} {w:World} (K:Act→World→Prop) (seg:∀ K':Act→World→Prop,(∀ a w,Stop (K a w) (.mk _)→K' a w)→wpList P ops (Exit.then K' Q) (l.take n) a w)
  (rest:∀ a w,K a w→wpList P ops Q (l.drop n) a w):wpList P ops Q l a w:=by
 have h:=list_append (l2:=l.drop n) (l.take n) a w (seg _ fun _ _ h=>rest _ _ h.out)
 rwa [List.take_append_drop] at h
theorem region_ops {a:Act} {w:World} {id:Nat} {l:List Oper} (h:∀ OPS:Array Oper,OPS=l.toArray→wpList P OPS Q l a w):(Code.region id l.toArray false).wp P Q a w:=wp_region_lit (h _ rfl)
theorem ab_want {o:Oper} {a:Act} {gi d:Nat} {gb x r:Bool} (hg:o.guard=some (gi,gb)) (hd:(ops[gi]?).bind (·.dst)=some d) (he:a.eval (.tmp d)=.bool x) (hr:(some x==some gb)=r):Region.wanted o (yielded ops a.tmps)=r:=by
 have h2:a.tmps[d]? =some (.bool x):=by
  simp only[Act.eval,Array.getD_eq_getD_getElem?] at he
  cases hq:a.tmps[d]? with
  |none=>rw[hq] at he;cases he
  |some q=>rw[hq] at he;rw[show q=.bool x from he]
 simp only[Region.wanted,hg,yielded,hd,Option.bind_some,h2]
 exact hr
theorem put_facts {a:Act} {d n:Nat} (v:Value) (hn:a.tmps.size=n) (hd:d<n):(a.put (some d) v).tmps.size=n∧(a.put (some d) v).eval (.tmp d)=v∧∀ j,(j != d)=true→(a.put (some d) v).eval (.tmp j)=a.eval (.tmp j):=by
 refine⟨by simpa [Act.put] using hn,?_,fun j hj=>?_⟩
 ·simp[Act.put,Act.eval,Array.getD_eq_getD_getElem?,show d<a.tmps.size by omega]
 ·have hj':j≠d:=by simpa using hj
  simp only[Act.put,Act.eval,Array.getD_eq_getD_getElem?]
  rw[Array.getElem?_setIfInBounds_ne (Ne.symm hj')]
/-- An operation of a long test is carried out. -/
theorem ad {o:Oper} {rest:List Oper} {a:Act} {w:World} {n:Nat} (d:Nat) (v:Value) (hd:o.dst=some d) (hn:a.tmps.size=n) (hf:a.defers=[]) (hdn:decide (d<n)=true) (hw:Region.wanted o (yielded ops a.tmps)=true) (hrun:(execOp a.eval o).run P w=.ok (.value v) w)
  (h:∀ a':Act,a'.tmps.size=n→a'.defers=[]→a'.eval (.tmp d)=v→(∀ j,(j != d)=true→a'.eval (.tmp j)=a.eval (.tmp j))→wpList P ops Q rest a' w):wpList P ops Q (o::rest) a w:=
 chain_do hw hrun (by rw[hd];have f:=put_facts v hn (of_decide_eq_true hdn);exact h _ f.1 hf f.2.1 f.2.2)
/-- Another slot holds what it held. -/
theorem zN {a a':Act} {d j:Nat} {v:Value} (N:∀ j,(j != d)=true→a'.eval (.tmp j)=a.eval (.tmp j)) (e:a.eval (.tmp j)=v) (hj:(j != d)=true:=by rfl):a'.eval (.tmp j)=v:=(N j hj).trans e
/-- It is passed over. -/
theorem ak {o:Oper} {rest:List Oper} {a:Act} {w:World} {n:Nat} (d:Nat) (hd:o.dst=some d) (hn:a.tmps.size=n) (hf:a.defers=[]) (hdn:decide (d<n)=true) (hw:Region.wanted o (yielded ops a.tmps)=false)
  (h:∀ a':Act,a'.tmps.size=n→a'.defers=[]→a'.eval (.tmp d)=undef→(∀ j,(j != d)=true→a'.eval (.tmp j)=a.eval (.tmp j))→wpList P ops Q rest a' w):wpList P ops Q (o::rest) a w:=
 chain_skip hw (by rw[hd];have f:=put_facts undef hn (of_decide_eq_true hdn);exact h _ f.1 hf f.2.1 f.2.2)
theorem yW {o:Oper} {a:Act} {gi d:Nat} {gb x r:Bool} (hd:(ops[gi]?).bind (·.dst)=some d) (he:a.eval (.tmp d)=.bool x) (hg:o.guard=some (gi,gb):=by rfl) (hr:(some x==some gb)=r:=by rfl):Region.wanted o (yielded ops a.tmps)=r:=ab_want hg hd he hr
theorem yA {o:Oper} {rest:List Oper} {a:Act} {w:World} {n:Nat} (d:Nat) (v:Value) (hn:a.tmps.size=n) (hf:a.defers=[]) (hw:Region.wanted o (yielded ops a.tmps)=true) (hrun:(execOp a.eval o).run P w=.ok (.value v) w)
  (h:∀ a':Act,a'.tmps.size=n→a'.defers=[]→a'.eval (.tmp d)=v→(∀ j,(j != d)=true→a'.eval (.tmp j)=a.eval (.tmp j))→wpList P ops Q rest a' w) (hd:o.dst=some d:=by rfl) (hdn:decide (d<n)=true:=by rfl):wpList P ops Q (o::rest) a w:=ad d v hd hn hf hdn hw hrun h
theorem yK {o:Oper} {rest:List Oper} {a:Act} {w:World} {n:Nat} (d:Nat) (hn:a.tmps.size=n) (hf:a.defers=[]) (hw:Region.wanted o (yielded ops a.tmps)=false)
  (h:∀ a':Act,a'.tmps.size=n→a'.defers=[]→a'.eval (.tmp d)=undef→(∀ j,(j != d)=true→a'.eval (.tmp j)=a.eval (.tmp j))→wpList P ops Q rest a' w) (hd:o.dst=some d:=by rfl) (hdn:decide (d<n)=true:=by rfl):wpList P ops Q (o::rest) a w:=ak d hd hn hf hdn hw h
section
variable {o : Oper} {a : Act} {w : World} {j : Nat} {x y : Operand} {v vx c : Value}
theorem ab_move (ho:o.op=.move x) (he:a.eval x=v):(execOp a.eval o).run P w=.ok (.value v) w:=by
 unfold execOp;rw[ho,← he];rfl
theorem ab_assign (ho:o.op=.assign x) (he:a.eval x=v):(execOp a.eval o).run P w=.ok (.value v) w:=by
 unfold execOp;rw[ho,← he];rfl
theorem ab_pick_t (ho:o.op=.pick (.tmp j) x y) (hc:a.eval (.tmp j)=.bool true) (he:a.eval x=v):(execOp a.eval o).run P w=.ok (.value v) w:=by
 unfold execOp;rw[ho];simp only[hc];rw[← he];rfl
theorem ab_pick_f (ho:o.op=.pick (.tmp j) x y) (hc:a.eval (.tmp j)=.bool false) (he:a.eval y=v):(execOp a.eval o).run P w=.ok (.value v) w:=by
 unfold execOp;rw[ho];simp only[hc];rw[← he];rfl
def abρ (vx:Value):Operand→Value
 |.tmp _=>vx
 |.const c=>c
 |_=>undef
theorem ab_bin {op:BinOp} {t u:TypeId} (ho:o.op=.binOp op t (.tmp j) (.const c) u) (hx:a.eval (.tmp j)=vx) (hr:(execOp (abρ vx) o).run P w=.ok (.value v) w):(execOp a.eval o).run P w=.ok (.value v) w:=by
 have:execOp a.eval o=execOp (abρ vx) o:=by
  unfold execOp;rw[ho];simp only[hx];rfl
 rw[this];exact hr
theorem ab_cmp_t {op:BinOp} {t u:TypeId} {p:Prop} [Decidable p] (hp:p) (ho:o.op=.binOp op t (.tmp j) (.const c) u) (hx:a.eval (.tmp j)=vx) (hr:(execOp (abρ vx) o).run P w=.ok (.value (.bool (decide p))) w):(execOp a.eval o).run P w=.ok (.value (.bool true)) w:=by
 rw[ab_bin ho hx hr,decide_eq_true hp]
theorem ab_cmp_f {op:BinOp} {t u:TypeId} {p:Prop} [Decidable p] (hp: ¬ p) (ho:o.op=.binOp op t (.tmp j) (.const c) u) (hx:a.eval (.tmp j)=vx) (hr:(execOp (abρ vx) o).run P w=.ok (.value (.bool (decide p))) w):(execOp a.eval o).run P w=.ok (.value (.bool false)) w:=by
 rw[ab_bin ho hx hr,decide_eq_false hp]
/-- The words of a long test, shorter. -/
theorem yM (he:a.eval x=v) (ho:o.op=.move x:=by rfl):(execOp a.eval o).run P w=.ok (.value v) w:=ab_move ho he
theorem yP (hc:a.eval (.tmp j)=.bool true) (he:a.eval x=v) (ho:o.op=.pick (.tmp j) x y:=by rfl):(execOp a.eval o).run P w=.ok (.value v) w:=ab_pick_t ho hc he
theorem yQ (hc:a.eval (.tmp j)=.bool false) (he:a.eval y=v) (ho:o.op=.pick (.tmp j) x y:=by rfl):(execOp a.eval o).run P w=.ok (.value v) w:=ab_pick_f ho hc he
theorem yB {op:BinOp} {t u:TypeId} (hx:a.eval (.tmp j)=vx) (ho:o.op=.binOp op t (.tmp j) (.const c) u:=by rfl) (hr:(execOp (abρ vx) o).run P w=.ok (.value v) w:=by kernel_rfl):(execOp a.eval o).run P w=.ok (.value v) w:=ab_bin ho hx hr
theorem yC {op:BinOp} {t u:TypeId} {p:Prop} [Decidable p] (hp:p) (hx:a.eval (.tmp j)=vx) (ho:o.op=.binOp op t (.tmp j) (.const c) u:=by rfl) (hr:(execOp (abρ vx) o).run P w=.ok (.value (.bool (decide p))) w:=by kernel_rfl):(execOp a.eval o).run P w=.ok (.value (.bool true)) w:=ab_cmp_t hp ho hx hr
theorem yD {op:BinOp} {t u:TypeId} {p:Prop} [Decidable p] (hp: ¬ p) (hx:a.eval (.tmp j)=vx) (ho:o.op=.binOp op t (.tmp j) (.const c) u:=by rfl) (hr:(execOp (abρ vx) o).run P w=.ok (.value (.bool (decide p))) w:=by kernel_rfl):(execOp a.eval o).run P w=.ok (.value (.bool false)) w:=ab_cmp_f hp ho hx hr
end
end
/-! ### a region that draws and acts: the loads first, over cells that nothing in it writes -/
section
variable {P : Program} {ops : Array Oper} {Q : Exit → Act → World → Prop} {md : Region.Mode}
theorem isEmpty_beq (l:List UInt8):l.isEmpty=(l==[]):=by cases l <;>rfl
def Cells:List (Addr × Value)→World→Prop
 |[],_=>True
 |(p,v)::r,w=>w.cell? p=some v∧Cells r w
theorem Cells.nil {w:World}:Cells [] w:=trivial
theorem Cells.cons {p:Addr} {v:Value} {r:List (Addr × Value)} {w:World} (h:w.cell? p=some v) (hr:Cells r w):Cells ((p,v)::r) w:=⟨h,hr⟩
theorem z0 {w:World}:Cells [] w:=trivial
theorem zk {p:Addr} {v:Value} {r:List (Addr × Value)} {w:World} (h:w.cell? p=some v) (hr:Cells r w):Cells ((p,v)::r) w:=⟨h,hr⟩
variable {L : List (Addr × Value)} {ds : List Nat}
theorem last_in {fuel:Nat} {listed:Array Bool} {a:Act} {w:World} (_hc:Cells L w) (h:wpAnyLast P md ops Q (Cells L) ds fuel listed a w):wpAny P md ops Q fuel listed a w:=wpAny_of_last _ _ _ _ h
theorem last_pure {i:Nat} {oi:Oper} {v:Value} {fuel:Nat} {listed listed':Array Bool} {a a':Act} {w:World} (hi:ops[i]? =some oi) (hs:Region.noSelect ops=true) (hf:Region.free md ops listed i=true) (hr:(Region.ready md ops listed).contains i=true)
  (hQ:∀ c a w,Q (.panic c) (a.put oi.dst v) w→Q (.panic c) a w) (hy:Yields P ops oi v a) (hl:listed.setIfInBounds i true=listed') (ha:a.put oi.dst v=a')
  (h:wpAnyLast P md ops Q (Cells L) ds fuel listed' a' w):wpAnyLast P md ops Q (Cells L) ds (fuel+1) listed a w:=by
 subst hl ha
 exact wpAnyLast_any hi (Region.noSelect_spec hs) hQ fuel listed a w (Region.free_spec hi hf) (by simpa using hr) hy h
theorem last_take {i:Nat} {oi:Oper} {v:Value} {fuel:Nat} {listed listed':Array Bool} {a a':Act} {w:World} (hi:ops[i]? =some oi) (hs:Region.noSelect ops=true) (hf:Region.free md ops listed i=true) (hr:(Region.ready md ops listed).contains i=true)
  (hc:Region.closedB md ops listed=true) (hd:Region.lastB md ops listed ds i=true) (hQ:∀ c a w,Q (.panic c) (a.put oi.dst v) w→Q (.panic c) a w) (hw:Region.wanted oi (yielded ops a.tmps)=true) (hy:∀ w,Cells L w→(execOp a.eval oi).run P w=.ok (.value v) w) (hS:Cells L w) (hl:listed.setIfInBounds i true=listed') (ha:a.put oi.dst v=a')
  (h:wpAnyLast P md ops Q (Cells L) ds fuel listed' a' w):wpAnyLast P md ops Q (Cells L) ds (fuel+1) listed a w:=by
 subst hl ha
 exact wpAnyLast_take hi hs hf hr hc hd hQ (.inl ⟨hw,hy⟩) hS h
theorem zlp (i:Nat) (v:Value) (listed':Array Bool) (a':Act) {oi:Oper} {fuel:Nat} {listed:Array Bool} {a:Act} {w:World}
  (hh:ops[i]? =some oi∧Region.noSelect ops=true∧Region.free md ops listed i=true∧(Region.ready md ops listed).contains i=true∧(∀ c a w,Q (.panic c) (a.put oi.dst v) w→Q (.panic c) a w)∧Yields P ops oi v a∧listed.setIfInBounds i true=listed'∧a.put oi.dst v=a':=by
   refine⟨rfl,by kernel_rfl,by kernel_rfl,by kernel_rfl,fun _ _ _ h_=>h_,.inl ⟨by kernel_rfl,fun _=>by first|rfl|(go_simp;done)|(go_simp;rfl)|(go_simp;simp only[i32_w];done)|(go_simp;simp only[MW.isEmpty_beq,bne,Bool.not_not];done)⟩,rfl,rfl⟩)
  (h:wpAnyLast P md ops Q (Cells L) ds fuel listed' a' w):wpAnyLast P md ops Q (Cells L) ds (fuel+1) listed a w:=last_pure hh.1 hh.2.1 hh.2.2.1 hh.2.2.2.1 hh.2.2.2.2.1 hh.2.2.2.2.2.1 hh.2.2.2.2.2.2.1 hh.2.2.2.2.2.2.2 h
theorem last_act {i:Nat} {oi:Oper} {fuel:Nat} {listed listed':Array Bool} {a:Act} {w:World} (hi:ops[i]? =some oi) (hr:Region.ready md ops listed=[i]) (hl:listed.setIfInBounds i true=listed') (_hd:i ∉ ds)
  (h:wpList P ops (Exit.then (fun a w=>Cells L w∧wpAnyLast P md ops Q (Cells L) ds fuel listed' a w) Q) [oi] a w):wpAnyLast P md ops Q (Cells L) ds (fuel+1) listed a w:=by
 refine wpAnyLast_all hr (by simp) fun j hj=>?_
 have hj':j=i:=by simpa using hj
 subst hj'
 subst hl
 unfold wpOp
 simp only[hi]
 unfold wpList at h
 split at h
 ·rename_i hw
  rw[if_pos hw]
  rcases h with h|h
  ·exact .inl (Oper.wp_mono (fun a w h=>⟨fun _ _=>h.1,h.2⟩) (upon_then h))
  ·exact .inr ⟨h.1,h.2⟩
 ·rename_i hw
  rw[if_neg hw]
  exact⟨fun _ _=>h.1,h.2⟩
theorem last_fin {i:Nat} {oi:Oper} {fuel:Nat} {listed listed':Array Bool} {a:Act} {w:World} (hi:ops[i]? =some oi) (hr:Region.ready md ops listed=[i]) (hl:listed.setIfInBounds i true=listed') (hd:ds.contains i=true)
  (h:wpList P ops (Exit.then (fun a w=>wpAnyLast P md ops Q (Cells L) ds fuel listed' a w) Q) [oi] a w):wpAnyLast P md ops Q (Cells L) ds (fuel+1) listed a w:=by
 refine wpAnyLast_all hr (by simp) fun j hj=>?_
 have hj':j=i:=by simpa using hj
 subst hj'
 subst hl
 have hd':j ∈ ds:=by simpa using hd
 unfold wpOp
 simp only[hi]
 unfold wpList at h
 split at h
 ·rename_i hw
  rw[if_pos hw]
  rcases h with h|h
  ·exact .inl (Oper.wp_mono (fun a w h=>⟨fun hn _=>absurd hd' hn,h⟩) (upon_then h))
  ·exact .inr ⟨h.1,h.2⟩
 ·rename_i hw
  rw[if_neg hw]
  exact⟨fun hn _=>absurd hd' hn,h⟩
theorem last_done {listed:Array Bool} {a:Act} {w:World} (hr:Region.ready md ops listed=[]) (h:Q .normal a w) (fuel:Nat):wpAnyLast P md ops Q (Cells L) ds fuel listed a w:=wpAnyLast_done hr h fuel
end
end Go.Proofs.Ytapinanmmhdpcaa.MW
