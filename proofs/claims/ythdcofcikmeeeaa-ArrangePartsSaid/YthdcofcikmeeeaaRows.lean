/-
  No cell of these rows narrows 'for every input' (looked for: loops, veiled, ifaces, maps, wideKeys, modest, calm, conditions, laid).
  DERIVED. THE GIVEN ROWS OF THIS SEAT. 4 by the template 'for every input the law returns true; each argument reads behind the call as it read before'; 0 by the template 'total and deterministic' (their statements: YthdcofcikmeeeaaTotals.lean).
  GIVEN WITH THE SEED: the statements are not yours to turn. If you find one false, say at which input.
  Laid BY PROGRAM, IN A SANDBOX (cutbox-rows.mjs): the forced cells as the released guide's own fill.sh prints them over the translation 38e1c2d7b7f08b0f… (all of the seat's roots in one cut). By AI agents, Wed Nov 11 2026. No macro, syntax, notation, axiom, sorry.
-/
import Derived.Test.YthdcofcikmeeeaaChecked
import GoSem.Claim
import GoSem.ClaimJoined
import GoSem.ClaimMapViews
import Derived.JoinedTies
import Derived.KernelRfl
namespace Go.Proofs.Ythdcofcikmeeeaa
/- THE CELL 'sum', in the pinned program and in every row, IS THE sha256 OF THE DUMP (.gsa) THAT YthdcofcikmeeeaaProg.lean LOADS. Nothing in Lean hashes anything: it is a label: what it is worth is what the hold of that sum in a sandbox is worth. -/
noncomputable def Try.pinned : Pinned := { name := "ythdcofcikmeeeaa", sum := "38e1c2d7b7f08b0f91094b9455921df89032d9f7fd19058bc60c5558d021a765", checked := Try.checked }
namespace Rows
def none {H : Type} : Left H := { results := [], args := [] }

/-- 'toponymlaw06.ArrangeOrders': WHATEVER THE INPUT: true; the input reads as it did. -/
def arrangeOrdersSpec : ChangeSpec := { name := "arrangeOrders", fn := fun _ => fun
  | [d] => { results := [.lit (.bool true)], args := [d] }
  | _ => none }
def arrangeOrdersRow : OpenClaim := { program := "ythdcofcikmeeeaa", sum := "38e1c2d7b7f08b0f91094b9455921df89032d9f7fd19058bc60c5558d021a765", func := "toponym/toponymlaw06.ArrangeOrders", spec := "arrangeOrders", apart := false }
def ArrangeOrdersSaid : Prop := arrangeOrdersRow.holds Try.pinned (OpenSpec.ofChange arrangeOrdersSpec)

/-- ITS FALSE NEIGHBOUR: 'it returns false'. Refute it at one input. -/
def arrangeOrdersWrong : ChangeSpec := { name := "arrangeOrders", fn := fun _ => fun
  | [d] => { results := [.lit (.bool false)], args := [d] }
  | _ => none }
def ArrangeOrdersWrongFalsely : Prop := arrangeOrdersRow.holds Try.pinned (OpenSpec.ofChange arrangeOrdersWrong)

/-- 'toponymlaw06.ArrangeRuns': WHATEVER THE INPUT: true; the input reads as it did. -/
def arrangeRunsSpec : ChangeSpec := { name := "arrangeRuns", fn := fun _ => fun
  | [d] => { results := [.lit (.bool true)], args := [d] }
  | _ => none }
def arrangeRunsRow : OpenClaim := { program := "ythdcofcikmeeeaa", sum := "38e1c2d7b7f08b0f91094b9455921df89032d9f7fd19058bc60c5558d021a765", func := "toponym/toponymlaw06.ArrangeRuns", spec := "arrangeRuns", apart := false }
def ArrangeRunsSaid : Prop := arrangeRunsRow.holds Try.pinned (OpenSpec.ofChange arrangeRunsSpec)

/-- ITS FALSE NEIGHBOUR: 'it returns false'. Refute it at one input. -/
def arrangeRunsWrong : ChangeSpec := { name := "arrangeRuns", fn := fun _ => fun
  | [d] => { results := [.lit (.bool false)], args := [d] }
  | _ => none }
def ArrangeRunsWrongFalsely : Prop := arrangeRunsRow.holds Try.pinned (OpenSpec.ofChange arrangeRunsWrong)

/-- 'toponymlaw06.ArrangeStable': WHATEVER THE INPUT: true; the input reads as it did. -/
def arrangeStableSpec : ChangeSpec := { name := "arrangeStable", fn := fun _ => fun
  | [d1, d2] => { results := [.lit (.bool true)], args := [d1, d2] }
  | _ => none }
def arrangeStableRow : OpenClaim := { program := "ythdcofcikmeeeaa", sum := "38e1c2d7b7f08b0f91094b9455921df89032d9f7fd19058bc60c5558d021a765", func := "toponym/toponymlaw06.ArrangeStable", spec := "arrangeStable", apart := false }
def ArrangeStableSaid : Prop := arrangeStableRow.holds Try.pinned (OpenSpec.ofChange arrangeStableSpec)

/-- ITS FALSE NEIGHBOUR: 'it returns false'. Refute it at one input. -/
def arrangeStableWrong : ChangeSpec := { name := "arrangeStable", fn := fun _ => fun
  | [d1, d2] => { results := [.lit (.bool false)], args := [d1, d2] }
  | _ => none }
def ArrangeStableWrongFalsely : Prop := arrangeStableRow.holds Try.pinned (OpenSpec.ofChange arrangeStableWrong)

/-- 'toponymlaw06.ArrangeParts': WHATEVER THE INPUT: true; the input reads as it did. -/
def arrangePartsSpec : ChangeSpec := { name := "arrangeParts", fn := fun _ => fun
  | [d] => { results := [.lit (.bool true)], args := [d] }
  | _ => none }
def arrangePartsRow : OpenClaim := { program := "ythdcofcikmeeeaa", sum := "38e1c2d7b7f08b0f91094b9455921df89032d9f7fd19058bc60c5558d021a765", func := "toponym/toponymlaw06.ArrangeParts", spec := "arrangeParts", apart := false }
def ArrangePartsSaid : Prop := arrangePartsRow.holds Try.pinned (OpenSpec.ofChange arrangePartsSpec)

/-- ITS FALSE NEIGHBOUR: 'it returns false'. Refute it at one input. -/
def arrangePartsWrong : ChangeSpec := { name := "arrangeParts", fn := fun _ => fun
  | [d] => { results := [.lit (.bool false)], args := [d] }
  | _ => none }
def ArrangePartsWrongFalsely : Prop := arrangePartsRow.holds Try.pinned (OpenSpec.ofChange arrangePartsWrong)

/- THE SECOND FORM. 'bulk': how many values and letters a reading holds, each counted each time it is reached (what is shared counts as often as it is met; a slice's spare places count too). A statement '..UptoSaid' is the law's where the arguments, and the package variables that the reading takes, are together of bulk at most 1048576: NARROWER than '..Said'. Prove '..Said' where nothing that the law and all that it calls make is longer than what came in: it says more and counts as full. Else prove '..UptoSaid'. A law counts once. -/
mutual
def uptoBulk {H : Type} : DataW H → Nat
  | .lit (.string bytes) => bytes.length + 1
  | .lit _ => 1
  | .nil => 1
  | .ptr d => uptoBulk d + 1
  | .slice elems spare => uptoBulkAll elems + uptoBulkAll spare + 1
  | .agg parts => uptoBulkAll parts + 1
  | .iface _ d => uptoBulk d + 1
  | .map entries => uptoBulkEntries entries + 1
  | .held _ => 1
def uptoBulkAll {H : Type} : List (DataW H) → Nat
  | [] => 0
  | d :: r => uptoBulk d + uptoBulkAll r
def uptoBulkEntries {H : Type} : List (Lit × DataW H) → Nat
  | [] => 0
  | x :: r => uptoBulkEntry x + uptoBulkEntries r
def uptoBulkEntry {H : Type} : Lit × DataW H → Nat
  | (.string bytes, d) => bytes.length + uptoBulk d + 1
  | (_, d) => uptoBulk d + 1
 end
def uptoSmall : (H : Type) → List (DataW H) → Bool := fun _ ds => decide (uptoBulkAll ds ≤ 1048576)
def OpenSpec.upto (s : _root_.Go.ChangeSpec) : _root_.Go.OpenSpec := { _root_.Go.OpenSpec.ofChange s with cond := some uptoSmall }

/-- 'toponymlaw06.ArrangeOrders', WHERE WHAT IT READS IS OF BULK AT MOST 1048576: true; the input reads as it did. -/
def arrangeOrdersUptoRow : OpenClaim := { program := "ythdcofcikmeeeaa", sum := "38e1c2d7b7f08b0f91094b9455921df89032d9f7fd19058bc60c5558d021a765", func := "toponym/toponymlaw06.ArrangeOrders", spec := "arrangeOrders", apart := false, narrowed := true }
def ArrangeOrdersUptoSaid : Prop := arrangeOrdersUptoRow.holds Try.pinned (OpenSpec.upto arrangeOrdersSpec)

/-- 'toponymlaw06.ArrangeRuns', WHERE WHAT IT READS IS OF BULK AT MOST 1048576: true; the input reads as it did. -/
def arrangeRunsUptoRow : OpenClaim := { program := "ythdcofcikmeeeaa", sum := "38e1c2d7b7f08b0f91094b9455921df89032d9f7fd19058bc60c5558d021a765", func := "toponym/toponymlaw06.ArrangeRuns", spec := "arrangeRuns", apart := false, narrowed := true }
def ArrangeRunsUptoSaid : Prop := arrangeRunsUptoRow.holds Try.pinned (OpenSpec.upto arrangeRunsSpec)

/-- 'toponymlaw06.ArrangeStable', WHERE WHAT IT READS IS OF BULK AT MOST 1048576: true; the input reads as it did. -/
def arrangeStableUptoRow : OpenClaim := { program := "ythdcofcikmeeeaa", sum := "38e1c2d7b7f08b0f91094b9455921df89032d9f7fd19058bc60c5558d021a765", func := "toponym/toponymlaw06.ArrangeStable", spec := "arrangeStable", apart := false, narrowed := true }
def ArrangeStableUptoSaid : Prop := arrangeStableUptoRow.holds Try.pinned (OpenSpec.upto arrangeStableSpec)

/-- 'toponymlaw06.ArrangeParts', WHERE WHAT IT READS IS OF BULK AT MOST 1048576: true; the input reads as it did. -/
def arrangePartsUptoRow : OpenClaim := { program := "ythdcofcikmeeeaa", sum := "38e1c2d7b7f08b0f91094b9455921df89032d9f7fd19058bc60c5558d021a765", func := "toponym/toponymlaw06.ArrangeParts", spec := "arrangeParts", apart := false, narrowed := true }
def ArrangePartsUptoSaid : Prop := arrangePartsUptoRow.holds Try.pinned (OpenSpec.upto arrangePartsSpec)

end Rows
end Go.Proofs.Ythdcofcikmeeeaa
