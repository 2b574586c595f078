import Derived.Test.YtcokpnajkkjclaaMW
namespace Go.Proofs.Ytcokpnajkkjclaa.MW
open Go.RowKit Go.Proofs.YtcokpnajkkjclaaW.PrintWords Go.Proofs.YtcokpnajkkjclaaW.PrintLast Go.Proofs.YtcokpnajkkjclaaW.PrintMore
set_option linter.unusedVariables false
/-! ### a long region, in parts -/
section
variable {P : Program} {ops : Array Oper} {Q : Exit → Act → World → Prop}
theorem upon_then {o:Oper} {a:Act} {K next:Act→World→Prop}:∀ {r:Result Next},o.upon P a next (Exit.then K Q) r→o.upon P a next Q r
 |.ok (.value _) _,h=>h
 |.ok .skip _,h=>h
 |.ok (.defer _) _,h=>h
 |.ok (.enter _ _) _,h=>h
 |.ok (.row _ _) _,h=>h
 |.halt _ _,h=>by
  unfold Oper.upon at h ⊢
  split at h <;>first|exact h|exact h.elim
theorem chain_do {o:Oper} {rest:List Oper} {a:Act} {w:World} {v:Value} (hw:Region.wanted o (yielded ops a.tmps)=true) (hrun:(execOp a.eval o).run P w=.ok (.value v) w) (h:wpList P ops Q rest (a.put o.dst v) w):wpList P ops Q (o::rest) a w:=by
 unfold wpList
 rw[if_pos hw]
 refine .inl ?_
 unfold Oper.wp
 rw[hrun]
 exact h
theorem put_facts {a:Act} {d n:Nat} (v:Value) (hn:a.tmps.size=n) (hd:d<n):(a.put (some d) v).tmps.size=n∧(a.put (some d) v).eval (.tmp d)=v∧∀ j,(j != d)=true→(a.put (some d) v).eval (.tmp j)=a.eval (.tmp j):=by
 refine⟨by simpa [Act.put] using hn,?_,fun j hj=>?_⟩
 ·simp[Act.put,Act.eval,Array.getD_eq_getD_getElem?,show d<a.tmps.size by omega]
 ·have hj':j≠d:=by simpa using hj
  simp only[Act.put,Act.eval,Array.getD_eq_getD_getElem?]
  rw[Array.getElem?_setIfInBounds_ne (Ne.symm hj')]
/-- An operation of a long test is carried out. -/
theorem ad {o:Oper} {rest:List Oper} {a:Act} {w:World} {n:Nat} (d:Nat) (v:Value) (hd:o.dst=some d) (hn:a.tmps.size=n) (hf:a.defers=[]) (hdn:decide (d<n)=true) (hw:Region.wanted o (yielded ops a.tmps)=true) (hrun:(execOp a.eval o).run P w=.ok (.value v) w)
  (h:∀ a':Act,a'.tmps.size=n→a'.defers=[]→a'.eval (.tmp d)=v→(∀ j,(j != d)=true→a'.eval (.tmp j)=a.eval (.tmp j))→wpList P ops Q rest a' w):wpList P ops Q (o::rest) a w:=
 chain_do hw hrun (by rw[hd];have f:=put_facts v hn (of_decide_eq_true hdn);exact h _ f.1 hf f.2.1 f.2.2)
section
variable {o : Oper} {a : Act} {w : World} {j : Nat} {x y : Operand} {v vx c : Value}
end
end
/-! ### a region that draws and acts: the loads first, over cells that nothing in it writes -/
section
variable {P : Program} {ops : Array Oper} {Q : Exit → Act → World → Prop} {md : Region.Mode}
theorem isEmpty_beq (l:List UInt8):l.isEmpty=(l==[]):=by cases l <;>rfl
def Cells:List (Addr × Value)→World→Prop
 |[],_=>True
 |(p,v)::r,w=>w.cell? p=some v∧Cells r w
theorem Cells.nil {w:World}:Cells [] w:=trivial
theorem Cells.cons {p:Addr} {v:Value} {r:List (Addr × Value)} {w:World} (h:w.cell? p=some v) (hr:Cells r w):Cells ((p,v)::r) w:=⟨h,hr⟩
theorem z0 {w:World}:Cells [] w:=trivial
theorem zk {p:Addr} {v:Value} {r:List (Addr × Value)} {w:World} (h:w.cell? p=some v) (hr:Cells r w):Cells ((p,v)::r) w:=⟨h,hr⟩
variable {L : List (Addr × Value)} {ds : List Nat}
theorem last_in {fuel:Nat} {listed:Array Bool} {a:Act} {w:World} (_hc:Cells L w) (h:wpAnyLast P md ops Q (Cells L) ds fuel listed a w):wpAny P md ops Q fuel listed a w:=wpAny_of_last _ _ _ _ h
theorem last_pure {i:Nat} {oi:Oper} {v:Value} {fuel:Nat} {listed listed':Array Bool} {a a':Act} {w:World} (hi:ops[i]? =some oi) (hs:Region.noSelect ops=true) (hf:Region.free md ops listed i=true) (hr:(Region.ready md ops listed).contains i=true)
  (hQ:∀ c a w,Q (.panic c) (a.put oi.dst v) w→Q (.panic c) a w) (hy:Yields P ops oi v a) (hl:listed.setIfInBounds i true=listed') (ha:a.put oi.dst v=a')
  (h:wpAnyLast P md ops Q (Cells L) ds fuel listed' a' w):wpAnyLast P md ops Q (Cells L) ds (fuel+1) listed a w:=by
 subst hl ha
 exact wpAnyLast_any hi (Region.noSelect_spec hs) hQ fuel listed a w (Region.free_spec hi hf) (by simpa using hr) hy h
theorem last_take {i:Nat} {oi:Oper} {v:Value} {fuel:Nat} {listed listed':Array Bool} {a a':Act} {w:World} (hi:ops[i]? =some oi) (hs:Region.noSelect ops=true) (hf:Region.free md ops listed i=true) (hr:(Region.ready md ops listed).contains i=true)
  (hc:Region.closedB md ops listed=true) (hd:Region.lastB md ops listed ds i=true) (hQ:∀ c a w,Q (.panic c) (a.put oi.dst v) w→Q (.panic c) a w) (hw:Region.wanted oi (yielded ops a.tmps)=true) (hy:∀ w,Cells L w→(execOp a.eval oi).run P w=.ok (.value v) w) (hS:Cells L w) (hl:listed.setIfInBounds i true=listed') (ha:a.put oi.dst v=a')
  (h:wpAnyLast P md ops Q (Cells L) ds fuel listed' a' w):wpAnyLast P md ops Q (Cells L) ds (fuel+1) listed a w:=by
 subst hl ha
 exact wpAnyLast_take hi hs hf hr hc hd hQ (.inl ⟨hw,hy⟩) hS h
theorem zlp (i:Nat) (v:Value) (listed':Array Bool) (a':Act) {oi:Oper} {fuel:Nat} {listed:Array Bool} {a:Act} {w:World}
  (hh:ops[i]? =some oi∧Region.noSelect ops=true∧Region.free md ops listed i=true∧(Region.ready md ops listed).contains i=true∧(∀ c a w,Q (.panic c) (a.put oi.dst v) w→Q (.panic c) a w)∧Yields P ops oi v a∧listed.setIfInBounds i true=listed'∧a.put oi.dst v=a':=by
   refine⟨rfl,by kernel_rfl,by kernel_rfl,by kernel_rfl,fun _ _ _ h_=>h_,.inl ⟨by kernel_rfl,fun _=>by first|rfl|(go_simp;done)|(go_simp;rfl)|(go_simp;simp only[i32_w];done)|(go_simp;simp only[MW.isEmpty_beq,bne,Bool.not_not];done)⟩,rfl,rfl⟩)
  (h:wpAnyLast P md ops Q (Cells L) ds fuel listed' a' w):wpAnyLast P md ops Q (Cells L) ds (fuel+1) listed a w:=last_pure hh.1 hh.2.1 hh.2.2.1 hh.2.2.2.1 hh.2.2.2.2.1 hh.2.2.2.2.2.1 hh.2.2.2.2.2.2.1 hh.2.2.2.2.2.2.2 h
theorem last_act {i:Nat} {oi:Oper} {fuel:Nat} {listed listed':Array Bool} {a:Act} {w:World} (hi:ops[i]? =some oi) (hr:Region.ready md ops listed=[i]) (hl:listed.setIfInBounds i true=listed') (_hd:i ∉ ds)
  (h:wpList P ops (Exit.then (fun a w=>Cells L w∧wpAnyLast P md ops Q (Cells L) ds fuel listed' a w) Q) [oi] a w):wpAnyLast P md ops Q (Cells L) ds (fuel+1) listed a w:=by
 refine wpAnyLast_all hr (by simp) fun j hj=>?_
 have hj':j=i:=by simpa using hj
 subst hj'
 subst hl
 unfold wpOp
 simp only[hi]
 unfold wpList at h
 split at h
 ·rename_i hw
  rw[if_pos hw]
  rcases h with h|h
  ·exact .inl (Oper.wp_mono (fun a w h=>⟨fun _ _=>h.1,h.2⟩) (upon_then h))
  ·exact .inr ⟨h.1,h.2⟩
 ·rename_i hw
  rw[if_neg hw]
  exact⟨fun _ _=>h.1,h.2⟩
theorem last_fin {i:Nat} {oi:Oper} {fuel:Nat} {listed listed':Array Bool} {a:Act} {w:World} (hi:ops[i]? =some oi) (hr:Region.ready md ops listed=[i]) (hl:listed.setIfInBounds i true=listed') (hd:ds.contains i=true)
  (h:wpList P ops (Exit.then (fun a w=>wpAnyLast P md ops Q (Cells L) ds fuel listed' a w) Q) [oi] a w):wpAnyLast P md ops Q (Cells L) ds (fuel+1) listed a w:=by
 refine wpAnyLast_all hr (by simp) fun j hj=>?_
 have hj':j=i:=by simpa using hj
 subst hj'
 subst hl
 have hd':j ∈ ds:=by simpa using hd
 unfold wpOp
 simp only[hi]
 unfold wpList at h
 split at h
 ·rename_i hw
  rw[if_pos hw]
  rcases h with h|h
  ·exact .inl (Oper.wp_mono (fun a w h=>⟨fun hn _=>absurd hd' hn,h⟩) (upon_then h))
  ·exact .inr ⟨h.1,h.2⟩
 ·rename_i hw
  rw[if_neg hw]
  exact⟨fun hn _=>absurd hd' hn,h⟩
theorem last_done {listed:Array Bool} {a:Act} {w:World} (hr:Region.ready md ops listed=[]) (h:Q .normal a w) (fuel:Nat):wpAnyLast P md ops Q (Cells L) ds fuel listed a w:=wpAnyLast_done hr h fuel
end
end Go.Proofs.Ytcokpnajkkjclaa.MW
