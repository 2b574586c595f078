import Derived.Test.YtkbiiijmgbjnkaaMW
import Derived.Test.YtkbiiijmgbjnkaaWShare
import Derived.Test.YtkbiiijmgbjnkaaWFoot
import Derived.WalkKit
import Derived.ProofKit
import Derived.OpenShut
import Derived.ShutString
import Derived.ChangeOld
import Derived.Below
import Derived.Carry
import Derived.SizedLaws
import Derived.ChangeSlices
import Derived.DataElems
namespace Go.Proofs.Ytkbiiijmgbjnkaa.MR
open Go.ChangeShapes Go.WideShapes Go.ChangeAt Go.RowKit Go.Proofs.YtkbiiijmgbjnkaaW.PrintWords Go.Proofs.YtkbiiijmgbjnkaaW.PrintLast Go.Proofs.YtkbiiijmgbjnkaaW.PrintMore
set_option linter.unusedVariables false
/-- Cells at type t that are read are a value of the kind d, and it is as G says. -/
def Opens (P:Program) (w:World) (t:TypeId) {α :Type} (d:Kd α) (G: α →Prop) (n:Nat):Prop:=
 ∀ {H:Type} (enc:TypeId × Value→H) (cs:List Value) (x:DataW H × List MemPlace),DataW.trod enc P w 0 (fun _=>true) true n t cs=some x→(∀ m ∈ DataW.weights P t x.1,m≤140737488351232)→∃ v,d.K w v cs∧G v
theorem opens_int {P:Program} {w:World} {t:TypeId} {k:IntKind} (n:Nat) (ht:P.underlying t=some (.int k)):Opens P w t (Kd.int k) (fun z=>(Lit.int k z).wf=true) n:=by
 intro H enc cs x h _
 obtain⟨z,rfl,rfl,hw⟩:=DataW.trod_int ht h
 exact⟨z,rfl,hw⟩
theorem sized_each {H:Type} {P:Program} {ts:List TypeId} {ds:List (DataW H)} (h:(DataW.weightsEach P ts ds).all (· ≤reachBytes)=true) {j:Nat} {t:TypeId} {d:DataW H} (ht:ts[j]? =some t) (hd:ds[j]? =some d):
  ∀ m ∈ DataW.weights P t d,m≤140737488351232:=fun m hm=>by
 have:=List.all_eq_true.1 h _ (DataW.weights_mem_each ht hd m hm)
 have h2:m≤reachBytes:=by simpa using this
 exact h2
end Go.Proofs.Ytkbiiijmgbjnkaa.MR
