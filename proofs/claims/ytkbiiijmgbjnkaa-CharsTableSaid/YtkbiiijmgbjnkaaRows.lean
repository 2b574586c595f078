/-
  No cell of these rows narrows 'for every input' (looked for: loops, veiled, ifaces, maps, wideKeys, modest, calm, conditions, laid).
  DERIVED. THE GIVEN ROWS OF THIS SEAT. 5 by the template 'for every input the law returns true; each argument reads behind the call as it read before'; 0 by the template 'total and deterministic' (their statements: YtkbiiijmgbjnkaaTotals.lean).
  GIVEN WITH THE SEED: the statements are not yours to turn. If you find one false, say at which input.
  Laid BY PROGRAM, IN A SANDBOX (cutbox-rows.mjs): the forced cells as the released guide's own fill.sh prints them over the translation 49f1bd940effd058… (all of the seat's roots in one cut). By AI agents, Wed Nov 11 2026. No macro, syntax, notation, axiom, sorry.
-/
import Derived.Test.YtkbiiijmgbjnkaaChecked
import GoSem.Claim
import GoSem.ClaimJoined
import GoSem.ClaimMapViews
import Derived.JoinedTies
import Derived.KernelRfl
namespace Go.Proofs.Ytkbiiijmgbjnkaa
/- THE CELL 'sum', in the pinned program and in every row, IS THE sha256 OF THE DUMP (.gsa) THAT YtkbiiijmgbjnkaaProg.lean LOADS. Nothing in Lean hashes anything: it is a label: what it is worth is what the hold of that sum in a sandbox is worth. -/
noncomputable def Try.pinned : Pinned := { name := "ytkbiiijmgbjnkaa", sum := "49f1bd940effd0582b5ffcb97def5b06a3b54dbc376c58a3481afbb760bfaf57", checked := Try.checked }
namespace Rows
def none {H : Type} : Left H := { results := [], args := [] }

/-- 'toponymlaw03.CharsKinds': WHATEVER THE INPUT: true; the input reads as it did. -/
def charsKindsSpec : ChangeSpec := { name := "charsKinds", fn := fun _ => fun
  | [d1, d2] => { results := [.lit (.bool true)], args := [d1, d2] }
  | _ => none }
def charsKindsRow : OpenClaim := { program := "ytkbiiijmgbjnkaa", sum := "49f1bd940effd0582b5ffcb97def5b06a3b54dbc376c58a3481afbb760bfaf57", func := "toponym/toponymlaw03.CharsKinds", spec := "charsKinds", apart := false }
def CharsKindsSaid : Prop := charsKindsRow.holds Try.pinned (OpenSpec.ofChange charsKindsSpec)

/-- ITS FALSE NEIGHBOUR: 'it returns false'. Refute it at one input. -/
def charsKindsWrong : ChangeSpec := { name := "charsKinds", fn := fun _ => fun
  | [d1, d2] => { results := [.lit (.bool false)], args := [d1, d2] }
  | _ => none }
def CharsKindsWrongFalsely : Prop := charsKindsRow.holds Try.pinned (OpenSpec.ofChange charsKindsWrong)

/-- 'toponymlaw03.CharsMarks': WHATEVER THE INPUT: true; the input reads as it did. -/
def charsMarksSpec : ChangeSpec := { name := "charsMarks", fn := fun _ => fun
  | [d] => { results := [.lit (.bool true)], args := [d] }
  | _ => none }
def charsMarksRow : OpenClaim := { program := "ytkbiiijmgbjnkaa", sum := "49f1bd940effd0582b5ffcb97def5b06a3b54dbc376c58a3481afbb760bfaf57", func := "toponym/toponymlaw03.CharsMarks", spec := "charsMarks", apart := false }
def CharsMarksSaid : Prop := charsMarksRow.holds Try.pinned (OpenSpec.ofChange charsMarksSpec)

/-- ITS FALSE NEIGHBOUR: 'it returns false'. Refute it at one input. -/
def charsMarksWrong : ChangeSpec := { name := "charsMarks", fn := fun _ => fun
  | [d] => { results := [.lit (.bool false)], args := [d] }
  | _ => none }
def CharsMarksWrongFalsely : Prop := charsMarksRow.holds Try.pinned (OpenSpec.ofChange charsMarksWrong)

/-- 'toponymlaw03.CharsSome': WHATEVER THE INPUT: true; the input reads as it did. -/
def charsSomeSpec : ChangeSpec := { name := "charsSome", fn := fun _ => fun
  | [d1, d2] => { results := [.lit (.bool true)], args := [d1, d2] }
  | _ => none }
def charsSomeRow : OpenClaim := { program := "ytkbiiijmgbjnkaa", sum := "49f1bd940effd0582b5ffcb97def5b06a3b54dbc376c58a3481afbb760bfaf57", func := "toponym/toponymlaw03.CharsSome", spec := "charsSome", unfollowed := true, recurses := true, apart := false }
def CharsSomeSaid : Prop := charsSomeRow.holds Try.pinned (OpenSpec.ofChange charsSomeSpec)

/-- ITS FALSE NEIGHBOUR: 'it returns false'. Refute it at one input. -/
def charsSomeWrong : ChangeSpec := { name := "charsSome", fn := fun _ => fun
  | [d1, d2] => { results := [.lit (.bool false)], args := [d1, d2] }
  | _ => none }
def CharsSomeWrongFalsely : Prop := charsSomeRow.holds Try.pinned (OpenSpec.ofChange charsSomeWrong)

/-- 'toponymlaw03.CharsFirst': WHATEVER THE INPUT: true; the input reads as it did. -/
def charsFirstSpec : ChangeSpec := { name := "charsFirst", fn := fun _ => fun
  | [d1, d2] => { results := [.lit (.bool true)], args := [d1, d2] }
  | _ => none }
def charsFirstRow : OpenClaim := { program := "ytkbiiijmgbjnkaa", sum := "49f1bd940effd0582b5ffcb97def5b06a3b54dbc376c58a3481afbb760bfaf57", func := "toponym/toponymlaw03.CharsFirst", spec := "charsFirst", unfollowed := true, recurses := true, apart := false }
def CharsFirstSaid : Prop := charsFirstRow.holds Try.pinned (OpenSpec.ofChange charsFirstSpec)

/-- ITS FALSE NEIGHBOUR: 'it returns false'. Refute it at one input. -/
def charsFirstWrong : ChangeSpec := { name := "charsFirst", fn := fun _ => fun
  | [d1, d2] => { results := [.lit (.bool false)], args := [d1, d2] }
  | _ => none }
def CharsFirstWrongFalsely : Prop := charsFirstRow.holds Try.pinned (OpenSpec.ofChange charsFirstWrong)

/-- 'toponymlaw03.CharsTable': WHATEVER THE INPUT: true; the input reads as it did. -/
def charsTableSpec : ChangeSpec := { name := "charsTable", fn := fun _ => fun
  | [d] => { results := [.lit (.bool true)], args := [d] }
  | _ => none }
def charsTableRow : OpenClaim := { program := "ytkbiiijmgbjnkaa", sum := "49f1bd940effd0582b5ffcb97def5b06a3b54dbc376c58a3481afbb760bfaf57", func := "toponym/toponymlaw03.CharsTable", spec := "charsTable", unfollowed := true, recurses := true, apart := false }
def CharsTableSaid : Prop := charsTableRow.holds Try.pinned (OpenSpec.ofChange charsTableSpec)

/-- ITS FALSE NEIGHBOUR: 'it returns false'. Refute it at one input. -/
def charsTableWrong : ChangeSpec := { name := "charsTable", fn := fun _ => fun
  | [d] => { results := [.lit (.bool false)], args := [d] }
  | _ => none }
def CharsTableWrongFalsely : Prop := charsTableRow.holds Try.pinned (OpenSpec.ofChange charsTableWrong)

/- THE SECOND FORM. 'bulk': how many values and letters a reading holds, each counted each time it is reached (what is shared counts as often as it is met; a slice's spare places count too). A statement '..UptoSaid' is the law's where the arguments, and the package variables that the reading takes, are together of bulk at most 1048576: NARROWER than '..Said'. Prove '..Said' where nothing that the law and all that it calls make is longer than what came in: it says more and counts as full. Else prove '..UptoSaid'. A law counts once. -/
mutual
def uptoBulk {H : Type} : DataW H → Nat
  | .lit (.string bytes) => bytes.length + 1
  | .lit _ => 1
  | .nil => 1
  | .ptr d => uptoBulk d + 1
  | .slice elems spare => uptoBulkAll elems + uptoBulkAll spare + 1
  | .agg parts => uptoBulkAll parts + 1
  | .iface _ d => uptoBulk d + 1
  | .map entries => uptoBulkEntries entries + 1
  | .held _ => 1
def uptoBulkAll {H : Type} : List (DataW H) → Nat
  | [] => 0
  | d :: r => uptoBulk d + uptoBulkAll r
def uptoBulkEntries {H : Type} : List (Lit × DataW H) → Nat
  | [] => 0
  | x :: r => uptoBulkEntry x + uptoBulkEntries r
def uptoBulkEntry {H : Type} : Lit × DataW H → Nat
  | (.string bytes, d) => bytes.length + uptoBulk d + 1
  | (_, d) => uptoBulk d + 1
 end
def uptoSmall : (H : Type) → List (DataW H) → Bool := fun _ ds => decide (uptoBulkAll ds ≤ 1048576)
def OpenSpec.upto (s : _root_.Go.ChangeSpec) : _root_.Go.OpenSpec := { _root_.Go.OpenSpec.ofChange s with cond := some uptoSmall }

/-- 'toponymlaw03.CharsKinds', WHERE WHAT IT READS IS OF BULK AT MOST 1048576: true; the input reads as it did. -/
def charsKindsUptoRow : OpenClaim := { program := "ytkbiiijmgbjnkaa", sum := "49f1bd940effd0582b5ffcb97def5b06a3b54dbc376c58a3481afbb760bfaf57", func := "toponym/toponymlaw03.CharsKinds", spec := "charsKinds", apart := false, narrowed := true }
def CharsKindsUptoSaid : Prop := charsKindsUptoRow.holds Try.pinned (OpenSpec.upto charsKindsSpec)

/-- 'toponymlaw03.CharsMarks', WHERE WHAT IT READS IS OF BULK AT MOST 1048576: true; the input reads as it did. -/
def charsMarksUptoRow : OpenClaim := { program := "ytkbiiijmgbjnkaa", sum := "49f1bd940effd0582b5ffcb97def5b06a3b54dbc376c58a3481afbb760bfaf57", func := "toponym/toponymlaw03.CharsMarks", spec := "charsMarks", apart := false, narrowed := true }
def CharsMarksUptoSaid : Prop := charsMarksUptoRow.holds Try.pinned (OpenSpec.upto charsMarksSpec)

/-- 'toponymlaw03.CharsSome', WHERE WHAT IT READS IS OF BULK AT MOST 1048576: true; the input reads as it did. -/
def charsSomeUptoRow : OpenClaim := { program := "ytkbiiijmgbjnkaa", sum := "49f1bd940effd0582b5ffcb97def5b06a3b54dbc376c58a3481afbb760bfaf57", func := "toponym/toponymlaw03.CharsSome", spec := "charsSome", unfollowed := true, recurses := true, apart := false, narrowed := true }
def CharsSomeUptoSaid : Prop := charsSomeUptoRow.holds Try.pinned (OpenSpec.upto charsSomeSpec)

/-- 'toponymlaw03.CharsFirst', WHERE WHAT IT READS IS OF BULK AT MOST 1048576: true; the input reads as it did. -/
def charsFirstUptoRow : OpenClaim := { program := "ytkbiiijmgbjnkaa", sum := "49f1bd940effd0582b5ffcb97def5b06a3b54dbc376c58a3481afbb760bfaf57", func := "toponym/toponymlaw03.CharsFirst", spec := "charsFirst", unfollowed := true, recurses := true, apart := false, narrowed := true }
def CharsFirstUptoSaid : Prop := charsFirstUptoRow.holds Try.pinned (OpenSpec.upto charsFirstSpec)

/-- 'toponymlaw03.CharsTable', WHERE WHAT IT READS IS OF BULK AT MOST 1048576: true; the input reads as it did. -/
def charsTableUptoRow : OpenClaim := { program := "ytkbiiijmgbjnkaa", sum := "49f1bd940effd0582b5ffcb97def5b06a3b54dbc376c58a3481afbb760bfaf57", func := "toponym/toponymlaw03.CharsTable", spec := "charsTable", unfollowed := true, recurses := true, apart := false, narrowed := true }
def CharsTableUptoSaid : Prop := charsTableUptoRow.holds Try.pinned (OpenSpec.upto charsTableSpec)

end Rows
end Go.Proofs.Ytkbiiijmgbjnkaa
