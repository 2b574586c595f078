import Derived.Test.YtcokpnajkkjclaaMS
import Derived.Test.YtcokpnajkkjclaaMX
namespace Go.Proofs.Ytcokpnajkkjclaa.MS
open Go.RowKit Go.Proofs.Ytcokpnajkkjclaa.MW Go.Proofs.YtcokpnajkkjclaaW.PrintWords Go.Proofs.YtcokpnajkkjclaaW.PrintLast Go.Proofs.YtcokpnajkkjclaaW.PrintMore
set_option linter.unusedVariables false
/-- One operation of a region with many orders, the loads being taken. -/
def One (P:Program) (md:Region.Mode) (ops:Array Oper) (Q:Exit→Act→World→Prop) (L:List (Addr × Value)) (ds:List Nat) (fuel:Nat) (listed:Array Bool) (i:Nat) (a:Act) (w:World):Prop:=
 wpOp P ops Q i (fun a' w'=>(i ∉ ds→MW.Cells L w→MW.Cells L w')∧wpAnyLast P md ops Q (MW.Cells L) ds fuel (listed.setIfInBounds i true) a' w') a w
section
variable {P : Program} {md : Region.Mode} {ops : Array Oper} {Q : Exit → Act → World → Prop} {L : List (Addr × Value)} {ds : List Nat} {fuel : Nat} {listed : Array Bool} {a : Act} {w : World}
/-- Two that act may come first. -/
theorem last_fork {i j:Nat} (hr:Region.ready md ops listed=[i,j]) (h1:One P md ops Q L ds fuel listed i a w) (h2:One P md ops Q L ds fuel listed j a w):wpAnyLast P md ops Q (MW.Cells L) ds (fuel+1) listed a w:=by
 refine wpAnyLast_all hr (by simp) fun m hm=>?_
 rcases List.mem_cons.1 hm with e|hm
 ·rw[e];exact h1
 ·rw[List.mem_singleton.1 hm];exact h2
theorem one_act {i:Nat} {oi:Oper} {listed':Array Bool} (hi:ops[i]? =some oi) (hl:listed.setIfInBounds i true=listed') (_hd:i ∉ ds)
  (h:wpList P ops (Exit.then (fun a w=>MW.Cells L w∧wpAnyLast P md ops Q (MW.Cells L) ds fuel listed' a w) Q) [oi] a w):One P md ops Q L ds fuel listed i a w:=by
 subst hl
 unfold One wpOp
 simp only[hi]
 unfold wpList at h
 split at h
 ·rename_i hw
  rw[if_pos hw]
  rcases h with h|h
  ·exact .inl (Oper.wp_mono (fun a w h=>⟨fun _ _=>h.1,h.2⟩) (upon_then h))
  ·exact .inr ⟨h.1,h.2⟩
 ·rename_i hw
  rw[if_neg hw]
  exact⟨fun _ _=>h.1,h.2⟩
theorem one_fin {i:Nat} {oi:Oper} {listed':Array Bool} (hi:ops[i]? =some oi) (hl:listed.setIfInBounds i true=listed') (hd:ds.contains i=true)
  (h:wpList P ops (Exit.then (fun a w=>wpAnyLast P md ops Q (MW.Cells L) ds fuel listed' a w) Q) [oi] a w):One P md ops Q L ds fuel listed i a w:=by
 subst hl
 have hd':i ∈ ds:=by simpa using hd
 unfold One wpOp
 simp only[hi]
 unfold wpList at h
 split at h
 ·rename_i hw
  rw[if_pos hw]
  rcases h with h|h
  ·exact .inl (Oper.wp_mono (fun a w h=>⟨fun hn _=>absurd hd' hn,h⟩) (upon_then h))
  ·exact .inr ⟨h.1,h.2⟩
 ·rename_i hw
  rw[if_neg hw]
  exact⟨fun hn _=>absurd hd' hn,h⟩
end
section
variable {P : Program} {md : Region.Mode} {ops : Array Oper} {Q : Exit → Act → World → Prop} {L : List (Addr × Value)} {ds : List Nat}
end
end Go.Proofs.Ytcokpnajkkjclaa.MS
