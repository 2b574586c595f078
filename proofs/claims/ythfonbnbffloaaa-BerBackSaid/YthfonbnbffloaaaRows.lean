/-
  NARROWER THAN 'FOR EVERY INPUT', by the rows' own cells (each row's printed sentence says how): BerEncodes: loops · BerBack: loops.
  DERIVED. THE GIVEN ROWS OF THIS SEAT. 4 by the template 'for every input the law returns true; each argument reads behind the call as it read before'; 0 by the template 'total and deterministic' (their statements: YthfonbnbffloaaaTotals.lean).
  GIVEN WITH THE SEED: the statements are not yours to turn. If you find one false, say at which input.
  Laid BY PROGRAM, IN A SANDBOX (cutbox-rows.mjs): the forced cells as the released guide's own fill.sh prints them over the translation 3301eb76164b3ef3… (all of the seat's roots in one cut). By AI agents, Wed Nov 11 2026. No macro, syntax, notation, axiom, sorry.
-/
import Derived.Test.YthfonbnbffloaaaChecked
import GoSem.Claim
import GoSem.ClaimJoined
import GoSem.ClaimMapViews
import Derived.JoinedTies
import Derived.KernelRfl
namespace Go.Proofs.Ythfonbnbffloaaa
/- THE CELL 'sum', in the pinned program and in every row, IS THE sha256 OF THE DUMP (.gsa) THAT YthfonbnbffloaaaProg.lean LOADS. Nothing in Lean hashes anything: it is a label: what it is worth is what the hold of that sum in a sandbox is worth. -/
noncomputable def Try.pinned : Pinned := { name := "ythfonbnbffloaaa", sum := "3301eb76164b3ef3502c3f4c2873b46fd11d67c9f1161f655abec8382e2c7c56", checked := Try.checked }
namespace Rows
def none {H : Type} : Left H := { results := [], args := [] }

/-- 'toponymlaw15.BerEncodes': WHATEVER THE INPUT: true; the input reads as it did. -/
def berEncodesSpec : ChangeSpec := { name := "berEncodes", fn := fun _ => fun
  | [d] => { results := [.lit (.bool true)], args := [d] }
  | _ => none }
def berEncodesRow : OpenClaim := { program := "ythfonbnbffloaaa", sum := "3301eb76164b3ef3502c3f4c2873b46fd11d67c9f1161f655abec8382e2c7c56", func := "toponym/toponymlaw15.BerEncodes", spec := "berEncodes", inPlace := ["internal/abi.NoEscape"], recurses := true, loops := true, apart := false }
def BerEncodesSaid : Prop := berEncodesRow.holds Try.pinned (OpenSpec.ofChange berEncodesSpec)

/-- ITS FALSE NEIGHBOUR: 'it returns false'. Refute it at one input. -/
def berEncodesWrong : ChangeSpec := { name := "berEncodes", fn := fun _ => fun
  | [d] => { results := [.lit (.bool false)], args := [d] }
  | _ => none }
def BerEncodesWrongFalsely : Prop := berEncodesRow.holds Try.pinned (OpenSpec.ofChange berEncodesWrong)

/-- 'toponymlaw15.BerBack': WHATEVER THE INPUT: true; the input reads as it did. -/
def berBackSpec : ChangeSpec := { name := "berBack", fn := fun _ => fun
  | [d1, d2, d3] => { results := [.lit (.bool true)], args := [d1, d2, d3] }
  | _ => none }
def berBackRow : OpenClaim := { program := "ythfonbnbffloaaa", sum := "3301eb76164b3ef3502c3f4c2873b46fd11d67c9f1161f655abec8382e2c7c56", func := "toponym/toponymlaw15.BerBack", spec := "berBack", inPlace := ["internal/abi.NoEscape"], recurses := true, loops := true, apart := false }
def BerBackSaid : Prop := berBackRow.holds Try.pinned (OpenSpec.ofChange berBackSpec)

/-- ITS FALSE NEIGHBOUR: 'it returns false'. Refute it at one input. -/
def berBackWrong : ChangeSpec := { name := "berBack", fn := fun _ => fun
  | [d1, d2, d3] => { results := [.lit (.bool false)], args := [d1, d2, d3] }
  | _ => none }
def BerBackWrongFalsely : Prop := berBackRow.holds Try.pinned (OpenSpec.ofChange berBackWrong)

/-- 'toponymlaw15.BerForms': WHATEVER THE INPUT: true; the input reads as it did. -/
def berFormsSpec : ChangeSpec := { name := "berForms", fn := fun _ => fun
  | [d1, d2] => { results := [.lit (.bool true)], args := [d1, d2] }
  | _ => none }
def berFormsRow : OpenClaim := { program := "ythfonbnbffloaaa", sum := "3301eb76164b3ef3502c3f4c2873b46fd11d67c9f1161f655abec8382e2c7c56", func := "toponym/toponymlaw15.BerForms", spec := "berForms", inPlace := ["internal/abi.NoEscape"], recurses := true, apart := false }
def BerFormsSaid : Prop := berFormsRow.holds Try.pinned (OpenSpec.ofChange berFormsSpec)

/-- ITS FALSE NEIGHBOUR: 'it returns false'. Refute it at one input. -/
def berFormsWrong : ChangeSpec := { name := "berForms", fn := fun _ => fun
  | [d1, d2] => { results := [.lit (.bool false)], args := [d1, d2] }
  | _ => none }
def BerFormsWrongFalsely : Prop := berFormsRow.holds Try.pinned (OpenSpec.ofChange berFormsWrong)

/-- 'toponymlaw15.BerParts': WHATEVER THE INPUT: true; the input reads as it did. -/
def berPartsSpec : ChangeSpec := { name := "berParts", fn := fun _ => fun
  | [d1, d2] => { results := [.lit (.bool true)], args := [d1, d2] }
  | _ => none }
def berPartsRow : OpenClaim := { program := "ythfonbnbffloaaa", sum := "3301eb76164b3ef3502c3f4c2873b46fd11d67c9f1161f655abec8382e2c7c56", func := "toponym/toponymlaw15.BerParts", spec := "berParts", inPlace := ["internal/abi.NoEscape"], recurses := true, apart := false }
def BerPartsSaid : Prop := berPartsRow.holds Try.pinned (OpenSpec.ofChange berPartsSpec)

/-- ITS FALSE NEIGHBOUR: 'it returns false'. Refute it at one input. -/
def berPartsWrong : ChangeSpec := { name := "berParts", fn := fun _ => fun
  | [d1, d2] => { results := [.lit (.bool false)], args := [d1, d2] }
  | _ => none }
def BerPartsWrongFalsely : Prop := berPartsRow.holds Try.pinned (OpenSpec.ofChange berPartsWrong)

/- THE SECOND FORM. 'bulk': how many values and letters a reading holds, each counted each time it is reached (what is shared counts as often as it is met; a slice's spare places count too). A statement '..UptoSaid' is the law's where the arguments, and the package variables that the reading takes, are together of bulk at most 1048576: NARROWER than '..Said'. Prove '..Said' where nothing that the law and all that it calls make is longer than what came in: it says more and counts as full. Else prove '..UptoSaid'. A law counts once. -/
mutual
def uptoBulk {H : Type} : DataW H → Nat
  | .lit (.string bytes) => bytes.length + 1
  | .lit _ => 1
  | .nil => 1
  | .ptr d => uptoBulk d + 1
  | .slice elems spare => uptoBulkAll elems + uptoBulkAll spare + 1
  | .agg parts => uptoBulkAll parts + 1
  | .iface _ d => uptoBulk d + 1
  | .map entries => uptoBulkEntries entries + 1
  | .held _ => 1
def uptoBulkAll {H : Type} : List (DataW H) → Nat
  | [] => 0
  | d :: r => uptoBulk d + uptoBulkAll r
def uptoBulkEntries {H : Type} : List (Lit × DataW H) → Nat
  | [] => 0
  | x :: r => uptoBulkEntry x + uptoBulkEntries r
def uptoBulkEntry {H : Type} : Lit × DataW H → Nat
  | (.string bytes, d) => bytes.length + uptoBulk d + 1
  | (_, d) => uptoBulk d + 1
 end
def uptoSmall : (H : Type) → List (DataW H) → Bool := fun _ ds => decide (uptoBulkAll ds ≤ 1048576)
def OpenSpec.upto (s : _root_.Go.ChangeSpec) : _root_.Go.OpenSpec := { _root_.Go.OpenSpec.ofChange s with cond := some uptoSmall }

/-- 'toponymlaw15.BerEncodes', WHERE WHAT IT READS IS OF BULK AT MOST 1048576: true; the input reads as it did. -/
def berEncodesUptoRow : OpenClaim := { program := "ythfonbnbffloaaa", sum := "3301eb76164b3ef3502c3f4c2873b46fd11d67c9f1161f655abec8382e2c7c56", func := "toponym/toponymlaw15.BerEncodes", spec := "berEncodes", inPlace := ["internal/abi.NoEscape"], recurses := true, loops := true, apart := false, narrowed := true }
def BerEncodesUptoSaid : Prop := berEncodesUptoRow.holds Try.pinned (OpenSpec.upto berEncodesSpec)

/-- 'toponymlaw15.BerBack', WHERE WHAT IT READS IS OF BULK AT MOST 1048576: true; the input reads as it did. -/
def berBackUptoRow : OpenClaim := { program := "ythfonbnbffloaaa", sum := "3301eb76164b3ef3502c3f4c2873b46fd11d67c9f1161f655abec8382e2c7c56", func := "toponym/toponymlaw15.BerBack", spec := "berBack", inPlace := ["internal/abi.NoEscape"], recurses := true, loops := true, apart := false, narrowed := true }
def BerBackUptoSaid : Prop := berBackUptoRow.holds Try.pinned (OpenSpec.upto berBackSpec)

/-- 'toponymlaw15.BerForms', WHERE WHAT IT READS IS OF BULK AT MOST 1048576: true; the input reads as it did. -/
def berFormsUptoRow : OpenClaim := { program := "ythfonbnbffloaaa", sum := "3301eb76164b3ef3502c3f4c2873b46fd11d67c9f1161f655abec8382e2c7c56", func := "toponym/toponymlaw15.BerForms", spec := "berForms", inPlace := ["internal/abi.NoEscape"], recurses := true, apart := false, narrowed := true }
def BerFormsUptoSaid : Prop := berFormsUptoRow.holds Try.pinned (OpenSpec.upto berFormsSpec)

/-- 'toponymlaw15.BerParts', WHERE WHAT IT READS IS OF BULK AT MOST 1048576: true; the input reads as it did. -/
def berPartsUptoRow : OpenClaim := { program := "ythfonbnbffloaaa", sum := "3301eb76164b3ef3502c3f4c2873b46fd11d67c9f1161f655abec8382e2c7c56", func := "toponym/toponymlaw15.BerParts", spec := "berParts", inPlace := ["internal/abi.NoEscape"], recurses := true, apart := false, narrowed := true }
def BerPartsUptoSaid : Prop := berPartsUptoRow.holds Try.pinned (OpenSpec.upto berPartsSpec)

end Rows
end Go.Proofs.Ythfonbnbffloaaa
