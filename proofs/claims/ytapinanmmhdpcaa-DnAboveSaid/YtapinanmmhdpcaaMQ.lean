import Derived.RangeFuncSeq
import Derived.WalkMore
import Derived.TacticsIn
import Derived.Test.YtapinanmmhdpcaaMW
namespace Go.Proofs.Ytapinanmmhdpcaa.MQ
open Go.RowKit Go.Proofs.YtapinanmmhdpcaaW.PrintWords Go.Proofs.YtapinanmmhdpcaaW.PrintLast Go.Proofs.YtapinanmmhdpcaaW.PrintMore
set_option linter.unusedVariables false
/-- What abides: all but some blocks. -/
structure Kp (K:Nat→Prop) (W W':World):Prop where
 os:W'.os=W.os
 tape:W'.tape=W.tape
 output:W'.output=W.output
 size:W.heap.size≤W'.heap.size
 block:∀ k,K k→k<W.heap.size→W'.heap[k]? =W.heap[k]?
theorem Kp.refl (K:Nat→Prop) (W:World):Kp K W W:=⟨rfl,rfl,rfl,Nat.le_refl _,fun _ _ _=>rfl⟩
theorem Kp.trans {K:Nat→Prop} {A B C:World} (h:Kp K A B) (k:Kp K B C):Kp K A C:=
 ⟨k.os.trans h.os,k.tape.trans h.tape,k.output.trans h.output,Nat.le_trans h.size k.size,fun i hi hl=>(k.block i hi (Nat.lt_of_lt_of_le hl h.size)).trans (h.block i hi hl)⟩
theorem Kp.mono {K K':Nat→Prop} {A B:World} (h:Kp K A B) (hk:∀ k,K' k→K k):Kp K' A B:=⟨h.os,h.tape,h.output,h.size,fun i hi=>h.block i (hk i hi)⟩
theorem Kp.grown {K:Nat→Prop} {A B:World} {row:Option Nat} (h:A.grownBy B row) (hr:∀ r,row=some r→ ¬ K r):Kp K A B:=
 ⟨h.os,h.tape,h.output,h.size,fun i hi hl=>h.block i hl (fun e=>hr i e.symm hi)⟩
theorem Kp.alloc {K:Nat→Prop} (W:World) (o:Obj):Kp K W (W.alloc o):=⟨rfl,rfl,rfl,by simp,fun k _ hk=>Below.heap_alloc W o k hk⟩
theorem Kp.below {K:Nat→Prop} {B:Nat} {W W':World} (h:Below B W W') (hK:∀ k,K k→k<B):Kp K W W':=⟨h.os,h.tape,h.output,h.size,fun k hk _=>h.block k (hK k hk)⟩
theorem Kp.drew {K:Nat→Prop} (W:World):Kp K W W.drew:=⟨rfl,rfl,rfl,Nat.le_refl _,fun _ _ _=>rfl⟩
/-- What the caller says of its own abides the iterator's steps: what lies in E may turn, new blocks may come and go over to E. -/
structure Stab {α :Type} (J:(Nat→Prop)→List α →World→Prop):Prop where
 step:∀ E s A A' row,J E s A→A.grownBy A' row→(∀ r,row=some r→E r)→J E s A'
 more:∀ E s A A' g,J E s A→A.grownBy A' none→A.heap.size≤g→g<A'.heap.size→J (fun k=>E k∨k=g) s A'
/-- The marks' blocks. -/
def Ds (b:Nat) (ds:List Nat) (W:World):Prop:=ds.Nodup∧∀ D ∈ ds,b≤D∧W.heap[D]? =some (.deferred (some []))
theorem Ds.nil (b:Nat) (W:World):Ds b [] W:=⟨List.nodup_nil,fun _ h=>by simp at h⟩
end Go.Proofs.Ytapinanmmhdpcaa.MQ
