/-
  NARROWER THAN 'FOR EVERY INPUT', by the rows' own cells (each row's printed sentence says how): PrimsGroups: loops · PrimsReads: loops.
  DERIVED. THE GIVEN ROWS OF THIS SEAT. 5 by the template 'for every input the law returns true; each argument reads behind the call as it read before'; 0 by the template 'total and deterministic' (their statements: YtliackbiljhioaaTotals.lean).
  GIVEN WITH THE SEED: the statements are not yours to turn. If you find one false, say at which input.
  Laid BY PROGRAM, IN A SANDBOX (cutbox-rows.mjs): the forced cells as the released guide's own fill.sh prints them over the translation 0ae47da3307699bf… (all of the seat's roots in one cut). By AI agents, Wed Nov 11 2026. No macro, syntax, notation, axiom, sorry.
-/
import Derived.Test.YtliackbiljhioaaChecked
import GoSem.Claim
import GoSem.ClaimJoined
import GoSem.ClaimMapViews
import Derived.JoinedTies
import Derived.KernelRfl
namespace Go.Proofs.Ytliackbiljhioaa
/- THE CELL 'sum', in the pinned program and in every row, IS THE sha256 OF THE DUMP (.gsa) THAT YtliackbiljhioaaProg.lean LOADS. Nothing in Lean hashes anything: it is a label: what it is worth is what the hold of that sum in a sandbox is worth. -/
noncomputable def Try.pinned : Pinned := { name := "ytliackbiljhioaa", sum := "0ae47da3307699bf8db3670dc0545a5f12f87eb23ac073d6cb1ada72a63854f7", checked := Try.checked }
namespace Rows
def none {H : Type} : Left H := { results := [], args := [] }

/-- 'toponymlaw16.PrimsGroups': WHATEVER THE INPUT: true; the input reads as it did. -/
def primsGroupsSpec : ChangeSpec := { name := "primsGroups", fn := fun _ => fun
  | [d1, d2] => { results := [.lit (.bool true)], args := [d1, d2] }
  | _ => none }
def primsGroupsRow : OpenClaim := { program := "ytliackbiljhioaa", sum := "0ae47da3307699bf8db3670dc0545a5f12f87eb23ac073d6cb1ada72a63854f7", func := "toponym/toponymlaw16.PrimsGroups", spec := "primsGroups", unfollowed := true, recurses := true, loops := true, apart := false }
def PrimsGroupsSaid : Prop := primsGroupsRow.holds Try.pinned (OpenSpec.ofChange primsGroupsSpec)

/-- ITS FALSE NEIGHBOUR: 'it returns false'. Refute it at one input. -/
def primsGroupsWrong : ChangeSpec := { name := "primsGroups", fn := fun _ => fun
  | [d1, d2] => { results := [.lit (.bool false)], args := [d1, d2] }
  | _ => none }
def PrimsGroupsWrongFalsely : Prop := primsGroupsRow.holds Try.pinned (OpenSpec.ofChange primsGroupsWrong)

/-- 'toponymlaw16.PrimsForms': WHATEVER THE INPUT: true; the input reads as it did. -/
def primsFormsSpec : ChangeSpec := { name := "primsForms", fn := fun _ => fun
  | [d] => { results := [.lit (.bool true)], args := [d] }
  | _ => none }
def primsFormsRow : OpenClaim := { program := "ytliackbiljhioaa", sum := "0ae47da3307699bf8db3670dc0545a5f12f87eb23ac073d6cb1ada72a63854f7", func := "toponym/toponymlaw16.PrimsForms", spec := "primsForms", unfollowed := true, recurses := true, apart := false }
def PrimsFormsSaid : Prop := primsFormsRow.holds Try.pinned (OpenSpec.ofChange primsFormsSpec)

/-- ITS FALSE NEIGHBOUR: 'it returns false'. Refute it at one input. -/
def primsFormsWrong : ChangeSpec := { name := "primsForms", fn := fun _ => fun
  | [d] => { results := [.lit (.bool false)], args := [d] }
  | _ => none }
def PrimsFormsWrongFalsely : Prop := primsFormsRow.holds Try.pinned (OpenSpec.ofChange primsFormsWrong)

/-- 'toponymlaw16.PrimsMakes': WHATEVER THE INPUT: true; the input reads as it did. -/
def primsMakesSpec : ChangeSpec := { name := "primsMakes", fn := fun _ => fun
  | [d1, d2, d3] => { results := [.lit (.bool true)], args := [d1, d2, d3] }
  | _ => none }
def primsMakesRow : OpenClaim := { program := "ytliackbiljhioaa", sum := "0ae47da3307699bf8db3670dc0545a5f12f87eb23ac073d6cb1ada72a63854f7", func := "toponym/toponymlaw16.PrimsMakes", spec := "primsMakes", unfollowed := true, recurses := true, apart := false }
def PrimsMakesSaid : Prop := primsMakesRow.holds Try.pinned (OpenSpec.ofChange primsMakesSpec)

/-- ITS FALSE NEIGHBOUR: 'it returns false'. Refute it at one input. -/
def primsMakesWrong : ChangeSpec := { name := "primsMakes", fn := fun _ => fun
  | [d1, d2, d3] => { results := [.lit (.bool false)], args := [d1, d2, d3] }
  | _ => none }
def PrimsMakesWrongFalsely : Prop := primsMakesRow.holds Try.pinned (OpenSpec.ofChange primsMakesWrong)

/-- 'toponymlaw16.PrimsReads': WHATEVER THE INPUT: true; the input reads as it did. -/
def primsReadsSpec : ChangeSpec := { name := "primsReads", fn := fun _ => fun
  | [d] => { results := [.lit (.bool true)], args := [d] }
  | _ => none }
def primsReadsRow : OpenClaim := { program := "ytliackbiljhioaa", sum := "0ae47da3307699bf8db3670dc0545a5f12f87eb23ac073d6cb1ada72a63854f7", func := "toponym/toponymlaw16.PrimsReads", spec := "primsReads", unfollowed := true, recurses := true, loops := true, apart := false }
def PrimsReadsSaid : Prop := primsReadsRow.holds Try.pinned (OpenSpec.ofChange primsReadsSpec)

/-- ITS FALSE NEIGHBOUR: 'it returns false'. Refute it at one input. -/
def primsReadsWrong : ChangeSpec := { name := "primsReads", fn := fun _ => fun
  | [d] => { results := [.lit (.bool false)], args := [d] }
  | _ => none }
def PrimsReadsWrongFalsely : Prop := primsReadsRow.holds Try.pinned (OpenSpec.ofChange primsReadsWrong)

/-- 'toponymlaw16.PrimsBack': WHATEVER THE INPUT: true; the input reads as it did. -/
def primsBackSpec : ChangeSpec := { name := "primsBack", fn := fun _ => fun
  | [d1, d2, d3] => { results := [.lit (.bool true)], args := [d1, d2, d3] }
  | _ => none }
def primsBackRow : OpenClaim := { program := "ytliackbiljhioaa", sum := "0ae47da3307699bf8db3670dc0545a5f12f87eb23ac073d6cb1ada72a63854f7", func := "toponym/toponymlaw16.PrimsBack", spec := "primsBack", inPlace := ["internal/abi.NoEscape"], unfollowed := true, recurses := true, apart := false }
def PrimsBackSaid : Prop := primsBackRow.holds Try.pinned (OpenSpec.ofChange primsBackSpec)

/-- ITS FALSE NEIGHBOUR: 'it returns false'. Refute it at one input. -/
def primsBackWrong : ChangeSpec := { name := "primsBack", fn := fun _ => fun
  | [d1, d2, d3] => { results := [.lit (.bool false)], args := [d1, d2, d3] }
  | _ => none }
def PrimsBackWrongFalsely : Prop := primsBackRow.holds Try.pinned (OpenSpec.ofChange primsBackWrong)

/- THE SECOND FORM. 'bulk': how many values and letters a reading holds, each counted each time it is reached (what is shared counts as often as it is met; a slice's spare places count too). A statement '..UptoSaid' is the law's where the arguments, and the package variables that the reading takes, are together of bulk at most 1048576: NARROWER than '..Said'. Prove '..Said' where nothing that the law and all that it calls make is longer than what came in: it says more and counts as full. Else prove '..UptoSaid'. A law counts once. -/
mutual
def uptoBulk {H : Type} : DataW H → Nat
  | .lit (.string bytes) => bytes.length + 1
  | .lit _ => 1
  | .nil => 1
  | .ptr d => uptoBulk d + 1
  | .slice elems spare => uptoBulkAll elems + uptoBulkAll spare + 1
  | .agg parts => uptoBulkAll parts + 1
  | .iface _ d => uptoBulk d + 1
  | .map entries => uptoBulkEntries entries + 1
  | .held _ => 1
def uptoBulkAll {H : Type} : List (DataW H) → Nat
  | [] => 0
  | d :: r => uptoBulk d + uptoBulkAll r
def uptoBulkEntries {H : Type} : List (Lit × DataW H) → Nat
  | [] => 0
  | x :: r => uptoBulkEntry x + uptoBulkEntries r
def uptoBulkEntry {H : Type} : Lit × DataW H → Nat
  | (.string bytes, d) => bytes.length + uptoBulk d + 1
  | (_, d) => uptoBulk d + 1
 end
def uptoSmall : (H : Type) → List (DataW H) → Bool := fun _ ds => decide (uptoBulkAll ds ≤ 1048576)
def OpenSpec.upto (s : _root_.Go.ChangeSpec) : _root_.Go.OpenSpec := { _root_.Go.OpenSpec.ofChange s with cond := some uptoSmall }

/-- 'toponymlaw16.PrimsGroups', WHERE WHAT IT READS IS OF BULK AT MOST 1048576: true; the input reads as it did. -/
def primsGroupsUptoRow : OpenClaim := { program := "ytliackbiljhioaa", sum := "0ae47da3307699bf8db3670dc0545a5f12f87eb23ac073d6cb1ada72a63854f7", func := "toponym/toponymlaw16.PrimsGroups", spec := "primsGroups", unfollowed := true, recurses := true, loops := true, apart := false, narrowed := true }
def PrimsGroupsUptoSaid : Prop := primsGroupsUptoRow.holds Try.pinned (OpenSpec.upto primsGroupsSpec)

/-- 'toponymlaw16.PrimsForms', WHERE WHAT IT READS IS OF BULK AT MOST 1048576: true; the input reads as it did. -/
def primsFormsUptoRow : OpenClaim := { program := "ytliackbiljhioaa", sum := "0ae47da3307699bf8db3670dc0545a5f12f87eb23ac073d6cb1ada72a63854f7", func := "toponym/toponymlaw16.PrimsForms", spec := "primsForms", unfollowed := true, recurses := true, apart := false, narrowed := true }
def PrimsFormsUptoSaid : Prop := primsFormsUptoRow.holds Try.pinned (OpenSpec.upto primsFormsSpec)

/-- 'toponymlaw16.PrimsMakes', WHERE WHAT IT READS IS OF BULK AT MOST 1048576: true; the input reads as it did. -/
def primsMakesUptoRow : OpenClaim := { program := "ytliackbiljhioaa", sum := "0ae47da3307699bf8db3670dc0545a5f12f87eb23ac073d6cb1ada72a63854f7", func := "toponym/toponymlaw16.PrimsMakes", spec := "primsMakes", unfollowed := true, recurses := true, apart := false, narrowed := true }
def PrimsMakesUptoSaid : Prop := primsMakesUptoRow.holds Try.pinned (OpenSpec.upto primsMakesSpec)

/-- 'toponymlaw16.PrimsReads', WHERE WHAT IT READS IS OF BULK AT MOST 1048576: true; the input reads as it did. -/
def primsReadsUptoRow : OpenClaim := { program := "ytliackbiljhioaa", sum := "0ae47da3307699bf8db3670dc0545a5f12f87eb23ac073d6cb1ada72a63854f7", func := "toponym/toponymlaw16.PrimsReads", spec := "primsReads", unfollowed := true, recurses := true, loops := true, apart := false, narrowed := true }
def PrimsReadsUptoSaid : Prop := primsReadsUptoRow.holds Try.pinned (OpenSpec.upto primsReadsSpec)

/-- 'toponymlaw16.PrimsBack', WHERE WHAT IT READS IS OF BULK AT MOST 1048576: true; the input reads as it did. -/
def primsBackUptoRow : OpenClaim := { program := "ytliackbiljhioaa", sum := "0ae47da3307699bf8db3670dc0545a5f12f87eb23ac073d6cb1ada72a63854f7", func := "toponym/toponymlaw16.PrimsBack", spec := "primsBack", inPlace := ["internal/abi.NoEscape"], unfollowed := true, recurses := true, apart := false, narrowed := true }
def PrimsBackUptoSaid : Prop := primsBackUptoRow.holds Try.pinned (OpenSpec.upto primsBackSpec)

end Rows
end Go.Proofs.Ytliackbiljhioaa
