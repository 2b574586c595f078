/-
  No cell of these rows narrows 'for every input' (looked for: loops, veiled, ifaces, maps, wideKeys, modest, calm, conditions, laid).
  DERIVED. THE GIVEN ROWS OF THIS SEAT. 4 by the template 'for every input the law returns true; each argument reads behind the call as it read before'; 0 by the template 'total and deterministic' (their statements: YtcjafemnkhifmaaTotals.lean).
  GIVEN WITH THE SEED: the statements are not yours to turn. If you find one false, say at which input.
  Laid BY PROGRAM, IN A SANDBOX (cutbox-rows.mjs): the forced cells as the released guide's own fill.sh prints them over the translation 4fc24f53d0d459a2… (all of the seat's roots in one cut). By AI agents, Wed Nov 11 2026. No macro, syntax, notation, axiom, sorry.
-/
import Derived.Test.YtcjafemnkhifmaaChecked
import GoSem.Claim
import GoSem.ClaimJoined
import GoSem.ClaimMapViews
import Derived.JoinedTies
import Derived.KernelRfl
namespace Go.Proofs.Ytcjafemnkhifmaa
/- THE CELL 'sum', in the pinned program and in every row, IS THE sha256 OF THE DUMP (.gsa) THAT YtcjafemnkhifmaaProg.lean LOADS. Nothing in Lean hashes anything: it is a label: what it is worth is what the hold of that sum in a sandbox is worth. -/
noncomputable def Try.pinned : Pinned := { name := "ytcjafemnkhifmaa", sum := "4fc24f53d0d459a20529fb367d33763a511d08eddc080b29feb080d969c160f7", checked := Try.checked }
namespace Rows
def none {H : Type} : Left H := { results := [], args := [] }

/-- 'toponymlaw20.AttrsChecks': WHATEVER THE INPUT: true; the input reads as it did. -/
def attrsChecksSpec : ChangeSpec := { name := "attrsChecks", fn := fun _ => fun
  | [d1, d2, d3] => { results := [.lit (.bool true)], args := [d1, d2, d3] }
  | _ => none }
def attrsChecksRow : OpenClaim := { program := "ytcjafemnkhifmaa", sum := "4fc24f53d0d459a20529fb367d33763a511d08eddc080b29feb080d969c160f7", func := "toponym/toponymlaw20.AttrsChecks", spec := "attrsChecks", inPlace := ["internal/bytealg.abigen_runtime_cmpstring"], unfollowed := true, recurses := true, apart := false }
def AttrsChecksSaid : Prop := attrsChecksRow.holds Try.pinned (OpenSpec.ofChange attrsChecksSpec)

/-- ITS FALSE NEIGHBOUR: 'it returns false'. Refute it at one input. -/
def attrsChecksWrong : ChangeSpec := { name := "attrsChecks", fn := fun _ => fun
  | [d1, d2, d3] => { results := [.lit (.bool false)], args := [d1, d2, d3] }
  | _ => none }
def AttrsChecksWrongFalsely : Prop := attrsChecksRow.holds Try.pinned (OpenSpec.ofChange attrsChecksWrong)

/-- 'toponymlaw20.AttrsTrees': WHATEVER THE INPUT: true; the input reads as it did. -/
def attrsTreesSpec : ChangeSpec := { name := "attrsTrees", fn := fun _ => fun
  | [d1, d2, d3] => { results := [.lit (.bool true)], args := [d1, d2, d3] }
  | _ => none }
def attrsTreesRow : OpenClaim := { program := "ytcjafemnkhifmaa", sum := "4fc24f53d0d459a20529fb367d33763a511d08eddc080b29feb080d969c160f7", func := "toponym/toponymlaw20.AttrsTrees", spec := "attrsTrees", inPlace := ["internal/bytealg.abigen_runtime_cmpstring"], unfollowed := true, recurses := true, apart := false }
def AttrsTreesSaid : Prop := attrsTreesRow.holds Try.pinned (OpenSpec.ofChange attrsTreesSpec)

/-- ITS FALSE NEIGHBOUR: 'it returns false'. Refute it at one input. -/
def attrsTreesWrong : ChangeSpec := { name := "attrsTrees", fn := fun _ => fun
  | [d1, d2, d3] => { results := [.lit (.bool false)], args := [d1, d2, d3] }
  | _ => none }
def AttrsTreesWrongFalsely : Prop := attrsTreesRow.holds Try.pinned (OpenSpec.ofChange attrsTreesWrong)

/-- 'toponymlaw20.AttrsLines': WHATEVER THE INPUT: true; the input reads as it did. -/
def attrsLinesSpec : ChangeSpec := { name := "attrsLines", fn := fun _ => fun
  | [d1, d2] => { results := [.lit (.bool true)], args := [d1, d2] }
  | _ => none }
def attrsLinesRow : OpenClaim := { program := "ytcjafemnkhifmaa", sum := "4fc24f53d0d459a20529fb367d33763a511d08eddc080b29feb080d969c160f7", func := "toponym/toponymlaw20.AttrsLines", spec := "attrsLines", inPlace := ["internal/bytealg.abigen_runtime_cmpstring"], unfollowed := true, recurses := true, apart := false }
def AttrsLinesSaid : Prop := attrsLinesRow.holds Try.pinned (OpenSpec.ofChange attrsLinesSpec)

/-- ITS FALSE NEIGHBOUR: 'it returns false'. Refute it at one input. -/
def attrsLinesWrong : ChangeSpec := { name := "attrsLines", fn := fun _ => fun
  | [d1, d2] => { results := [.lit (.bool false)], args := [d1, d2] }
  | _ => none }
def AttrsLinesWrongFalsely : Prop := attrsLinesRow.holds Try.pinned (OpenSpec.ofChange attrsLinesWrong)

/-- 'toponymlaw20.AttrsBelow': WHATEVER THE INPUT: true; the input reads as it did. -/
def attrsBelowSpec : ChangeSpec := { name := "attrsBelow", fn := fun _ => fun
  | [d1, d2, d3] => { results := [.lit (.bool true)], args := [d1, d2, d3] }
  | _ => none }
def attrsBelowRow : OpenClaim := { program := "ytcjafemnkhifmaa", sum := "4fc24f53d0d459a20529fb367d33763a511d08eddc080b29feb080d969c160f7", func := "toponym/toponymlaw20.AttrsBelow", spec := "attrsBelow", inPlace := ["internal/bytealg.abigen_runtime_cmpstring"], unfollowed := true, recurses := true, apart := false }
def AttrsBelowSaid : Prop := attrsBelowRow.holds Try.pinned (OpenSpec.ofChange attrsBelowSpec)

/-- ITS FALSE NEIGHBOUR: 'it returns false'. Refute it at one input. -/
def attrsBelowWrong : ChangeSpec := { name := "attrsBelow", fn := fun _ => fun
  | [d1, d2, d3] => { results := [.lit (.bool false)], args := [d1, d2, d3] }
  | _ => none }
def AttrsBelowWrongFalsely : Prop := attrsBelowRow.holds Try.pinned (OpenSpec.ofChange attrsBelowWrong)

/- THE SECOND FORM. 'bulk': how many values and letters a reading holds, each counted each time it is reached (what is shared counts as often as it is met; a slice's spare places count too). A statement '..UptoSaid' is the law's where the arguments, and the package variables that the reading takes, are together of bulk at most 1048576: NARROWER than '..Said'. Prove '..Said' where nothing that the law and all that it calls make is longer than what came in: it says more and counts as full. Else prove '..UptoSaid'. A law counts once. -/
mutual
def uptoBulk {H : Type} : DataW H → Nat
  | .lit (.string bytes) => bytes.length + 1
  | .lit _ => 1
  | .nil => 1
  | .ptr d => uptoBulk d + 1
  | .slice elems spare => uptoBulkAll elems + uptoBulkAll spare + 1
  | .agg parts => uptoBulkAll parts + 1
  | .iface _ d => uptoBulk d + 1
  | .map entries => uptoBulkEntries entries + 1
  | .held _ => 1
def uptoBulkAll {H : Type} : List (DataW H) → Nat
  | [] => 0
  | d :: r => uptoBulk d + uptoBulkAll r
def uptoBulkEntries {H : Type} : List (Lit × DataW H) → Nat
  | [] => 0
  | x :: r => uptoBulkEntry x + uptoBulkEntries r
def uptoBulkEntry {H : Type} : Lit × DataW H → Nat
  | (.string bytes, d) => bytes.length + uptoBulk d + 1
  | (_, d) => uptoBulk d + 1
 end
def uptoSmall : (H : Type) → List (DataW H) → Bool := fun _ ds => decide (uptoBulkAll ds ≤ 1048576)
def OpenSpec.upto (s : _root_.Go.ChangeSpec) : _root_.Go.OpenSpec := { _root_.Go.OpenSpec.ofChange s with cond := some uptoSmall }

/-- 'toponymlaw20.AttrsChecks', WHERE WHAT IT READS IS OF BULK AT MOST 1048576: true; the input reads as it did. -/
def attrsChecksUptoRow : OpenClaim := { program := "ytcjafemnkhifmaa", sum := "4fc24f53d0d459a20529fb367d33763a511d08eddc080b29feb080d969c160f7", func := "toponym/toponymlaw20.AttrsChecks", spec := "attrsChecks", inPlace := ["internal/bytealg.abigen_runtime_cmpstring"], unfollowed := true, recurses := true, apart := false, narrowed := true }
def AttrsChecksUptoSaid : Prop := attrsChecksUptoRow.holds Try.pinned (OpenSpec.upto attrsChecksSpec)

/-- 'toponymlaw20.AttrsTrees', WHERE WHAT IT READS IS OF BULK AT MOST 1048576: true; the input reads as it did. -/
def attrsTreesUptoRow : OpenClaim := { program := "ytcjafemnkhifmaa", sum := "4fc24f53d0d459a20529fb367d33763a511d08eddc080b29feb080d969c160f7", func := "toponym/toponymlaw20.AttrsTrees", spec := "attrsTrees", inPlace := ["internal/bytealg.abigen_runtime_cmpstring"], unfollowed := true, recurses := true, apart := false, narrowed := true }
def AttrsTreesUptoSaid : Prop := attrsTreesUptoRow.holds Try.pinned (OpenSpec.upto attrsTreesSpec)

/-- 'toponymlaw20.AttrsLines', WHERE WHAT IT READS IS OF BULK AT MOST 1048576: true; the input reads as it did. -/
def attrsLinesUptoRow : OpenClaim := { program := "ytcjafemnkhifmaa", sum := "4fc24f53d0d459a20529fb367d33763a511d08eddc080b29feb080d969c160f7", func := "toponym/toponymlaw20.AttrsLines", spec := "attrsLines", inPlace := ["internal/bytealg.abigen_runtime_cmpstring"], unfollowed := true, recurses := true, apart := false, narrowed := true }
def AttrsLinesUptoSaid : Prop := attrsLinesUptoRow.holds Try.pinned (OpenSpec.upto attrsLinesSpec)

/-- 'toponymlaw20.AttrsBelow', WHERE WHAT IT READS IS OF BULK AT MOST 1048576: true; the input reads as it did. -/
def attrsBelowUptoRow : OpenClaim := { program := "ytcjafemnkhifmaa", sum := "4fc24f53d0d459a20529fb367d33763a511d08eddc080b29feb080d969c160f7", func := "toponym/toponymlaw20.AttrsBelow", spec := "attrsBelow", inPlace := ["internal/bytealg.abigen_runtime_cmpstring"], unfollowed := true, recurses := true, apart := false, narrowed := true }
def AttrsBelowUptoSaid : Prop := attrsBelowUptoRow.holds Try.pinned (OpenSpec.upto attrsBelowSpec)

end Rows
end Go.Proofs.Ytcjafemnkhifmaa
