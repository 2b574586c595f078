import Derived.Test.YtcokpnajkkjclaaMB

namespace Go.Proofs.Ytcokpnajkkjclaa.PuE
open Go Go.RowKit Go.Proofs.YtcokpnajkkjclaaW.PrintWords Go.Proofs.YtcokpnajkkjclaaW.PrintLast Go.Proofs.YtcokpnajkkjclaaW.PrintMore
set_option linter.unusedVariables false
/-- From some number of rounds on. -/
def Evt {α :Type} (f:Nat→Option α) (v: α):Prop:=∃ K,∀ k,K≤k→f k=some v
section
variable {α β : Type} {f : Nat → Option α} {v : α} {u : β}
theorem Evt.now (v: α):Evt (fun _=>some v) v:=⟨0,fun _ _=>rfl⟩
theorem Evt.bind {g:Nat→ α →Option β} (h:Evt f v) (h2:Evt (fun k=>g k v) u):Evt (fun k=>(f k).bind (g k)) u:=by
 obtain⟨K,hK⟩:=h
 obtain⟨K2,hK2⟩:=h2
 exact⟨max K K2,fun k hk=>by show(f k).bind (g k)=some u;rw[hK k (by omega)];exact hK2 k (by omega)⟩
theorem Evt.step (h:Evt (fun k=>f (k+1)) v):Evt f v:=by
 obtain⟨K,hK⟩:=h
 exact⟨K+1,fun k hk=>by obtain⟨j,rfl⟩:∃ j,k=j+1:=⟨k - 1,by omega⟩;exact hK j (by omega)⟩
theorem Evt.get (h:Evt f v):∃ k,f k=some v:=by
 obtain⟨K,hK⟩:=h
 exact⟨K,hK K (Nat.le_refl _)⟩
theorem Evt.of_eq {g:Nat→Option α} (h:Evt f v) (e:∀ k,g k=f k):Evt g v:=by
 obtain⟨K,hK⟩:=h
 exact⟨K,fun k hk=>(e k).trans (hK k hk)⟩
theorem Evt.ifp {c:Prop} [Decidable c] {g:Nat→Option α} (hc:c) (h:Evt f v):Evt (fun k=>if c then f k else g k) v:=h.of_eq fun _=>if_pos hc
theorem Evt.ifn {c:Prop} [Decidable c] {g:Nat→Option α} (hc: ¬ c) (h:Evt f v):Evt (fun k=>if c then g k else f k) v:=h.of_eq fun _=>if_neg hc
theorem Evt.val {w: α} (h:Evt f v) (e:v=w):Evt f w:=e ▸ h
theorem Evt.of_all (h:∀ k,f k=some v):Evt f v:=⟨0,fun k _=>h k⟩
theorem Evt.mono_ {k:Nat} (hm:∀ k,LeO (f k) (f (k+1))) (h:f k=some v):Evt f v:=by
 have key:∀ j,f (k+j)=some v:=by
  intro j
  induction j with
  |zero=>exact h
  |succ j ih=>exact hm _ _ ih
 exact⟨k,fun j hj=>by obtain⟨i,rfl⟩:=Nat.exists_eq_add_of_le hj;exact key i⟩
end
/-- omega does not look in. -/
structure Veil (p:Prop):Prop where
 out:p
/-! ### bytes as lists -/
def B (s:ByteArray):List UInt8:=s.data.toList
theorem w64 (x:Int) (h: -9223372036854775808≤x∧x≤9223372036854775807):wrap64 x=x:=IntWalk.wrap64_in x (by omega)
end Go.Proofs.Ytcokpnajkkjclaa.PuE

