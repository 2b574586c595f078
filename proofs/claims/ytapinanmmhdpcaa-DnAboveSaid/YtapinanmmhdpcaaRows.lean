/-
  No cell of these rows narrows 'for every input' (looked for: loops, veiled, ifaces, maps, wideKeys, modest, calm, conditions, laid).
  DERIVED. THE GIVEN ROWS OF THIS SEAT. 6 by the template 'for every input the law returns true; each argument reads behind the call as it read before'; 0 by the template 'total and deterministic' (their statements: YtapinanmmhdpcaaTotals.lean).
  GIVEN WITH THE SEED: the statements are not yours to turn. If you find one false, say at which input.
  Laid BY PROGRAM, IN A SANDBOX (cutbox-rows.mjs): the forced cells as the released guide's own fill.sh prints them over the translation a1a88250bee12ba9… (all of the seat's roots in one cut). By AI agents, Wed Nov 11 2026. No macro, syntax, notation, axiom, sorry.
-/
import Derived.Test.YtapinanmmhdpcaaChecked
import GoSem.Claim
import GoSem.ClaimJoined
import GoSem.ClaimMapViews
import Derived.JoinedTies
import Derived.KernelRfl
namespace Go.Proofs.Ytapinanmmhdpcaa
/- THE CELL 'sum', in the pinned program and in every row, IS THE sha256 OF THE DUMP (.gsa) THAT YtapinanmmhdpcaaProg.lean LOADS. Nothing in Lean hashes anything: it is a label: what it is worth is what the hold of that sum in a sandbox is worth. -/
noncomputable def Try.pinned : Pinned := { name := "ytapinanmmhdpcaa", sum := "a1a88250bee12ba98afd77648bb9b0fd2ab298dd3c3bed3cf5b9d02187c7be97", checked := Try.checked }
namespace Rows
def none {H : Type} : Left H := { results := [], args := [] }

/-- 'toponymlaw18.DnShows': WHATEVER THE INPUT: true; the input reads as it did. -/
def dnShowsSpec : ChangeSpec := { name := "dnShows", fn := fun _ => fun
  | [d1, d2] => { results := [.lit (.bool true)], args := [d1, d2] }
  | _ => none }
def dnShowsRow : OpenClaim := { program := "ytapinanmmhdpcaa", sum := "a1a88250bee12ba98afd77648bb9b0fd2ab298dd3c3bed3cf5b9d02187c7be97", func := "toponym/toponymlaw18.DnShows", spec := "dnShows", inPlace := ["internal/bytealg.IndexByteString", "internal/abi.NoEscape", "internal/bytealg.MakeNoZero"], apart := false }
def DnShowsSaid : Prop := dnShowsRow.holds Try.pinned (OpenSpec.ofChange dnShowsSpec)

/-- ITS FALSE NEIGHBOUR: 'it returns false'. Refute it at one input. -/
def dnShowsWrong : ChangeSpec := { name := "dnShows", fn := fun _ => fun
  | [d1, d2] => { results := [.lit (.bool false)], args := [d1, d2] }
  | _ => none }
def DnShowsWrongFalsely : Prop := dnShowsRow.holds Try.pinned (OpenSpec.ofChange dnShowsWrong)

/-- 'toponymlaw18.DnForms': WHATEVER THE INPUT: true; the input reads as it did. -/
def dnFormsSpec : ChangeSpec := { name := "dnForms", fn := fun _ => fun
  | [d] => { results := [.lit (.bool true)], args := [d] }
  | _ => none }
def dnFormsRow : OpenClaim := { program := "ytapinanmmhdpcaa", sum := "a1a88250bee12ba98afd77648bb9b0fd2ab298dd3c3bed3cf5b9d02187c7be97", func := "toponym/toponymlaw18.DnForms", spec := "dnForms", inPlace := ["internal/bytealg.IndexByteString", "internal/abi.NoEscape", "internal/bytealg.MakeNoZero"], apart := false }
def DnFormsSaid : Prop := dnFormsRow.holds Try.pinned (OpenSpec.ofChange dnFormsSpec)

/-- ITS FALSE NEIGHBOUR: 'it returns false'. Refute it at one input. -/
def dnFormsWrong : ChangeSpec := { name := "dnForms", fn := fun _ => fun
  | [d] => { results := [.lit (.bool false)], args := [d] }
  | _ => none }
def DnFormsWrongFalsely : Prop := dnFormsRow.holds Try.pinned (OpenSpec.ofChange dnFormsWrong)

/-- 'toponymlaw18.DnAbove': WHATEVER THE INPUT: true; the input reads as it did. -/
def dnAboveSpec : ChangeSpec := { name := "dnAbove", fn := fun _ => fun
  | [d1, d2] => { results := [.lit (.bool true)], args := [d1, d2] }
  | _ => none }
def dnAboveRow : OpenClaim := { program := "ytapinanmmhdpcaa", sum := "a1a88250bee12ba98afd77648bb9b0fd2ab298dd3c3bed3cf5b9d02187c7be97", func := "toponym/toponymlaw18.DnAbove", spec := "dnAbove", inPlace := ["internal/bytealg.IndexByteString", "internal/abi.NoEscape", "internal/bytealg.MakeNoZero"], apart := false }
def DnAboveSaid : Prop := dnAboveRow.holds Try.pinned (OpenSpec.ofChange dnAboveSpec)

/-- ITS FALSE NEIGHBOUR: 'it returns false'. Refute it at one input. -/
def dnAboveWrong : ChangeSpec := { name := "dnAbove", fn := fun _ => fun
  | [d1, d2] => { results := [.lit (.bool false)], args := [d1, d2] }
  | _ => none }
def DnAboveWrongFalsely : Prop := dnAboveRow.holds Try.pinned (OpenSpec.ofChange dnAboveWrong)

/-- 'toponymlaw18.DnParses': WHATEVER THE INPUT: true; the input reads as it did. -/
def dnParsesSpec : ChangeSpec := { name := "dnParses", fn := fun _ => fun
  | [d] => { results := [.lit (.bool true)], args := [d] }
  | _ => none }
def dnParsesRow : OpenClaim := { program := "ytapinanmmhdpcaa", sum := "a1a88250bee12ba98afd77648bb9b0fd2ab298dd3c3bed3cf5b9d02187c7be97", func := "toponym/toponymlaw18.DnParses", spec := "dnParses", inPlace := ["internal/bytealg.IndexByteString", "internal/abi.NoEscape", "internal/bytealg.MakeNoZero"], apart := false }
def DnParsesSaid : Prop := dnParsesRow.holds Try.pinned (OpenSpec.ofChange dnParsesSpec)

/-- ITS FALSE NEIGHBOUR: 'it returns false'. Refute it at one input. -/
def dnParsesWrong : ChangeSpec := { name := "dnParses", fn := fun _ => fun
  | [d] => { results := [.lit (.bool false)], args := [d] }
  | _ => none }
def DnParsesWrongFalsely : Prop := dnParsesRow.holds Try.pinned (OpenSpec.ofChange dnParsesWrong)

/-- 'toponymlaw18.DnBack': WHATEVER THE INPUT: true; the input reads as it did. -/
def dnBackSpec : ChangeSpec := { name := "dnBack", fn := fun _ => fun
  | [d] => { results := [.lit (.bool true)], args := [d] }
  | _ => none }
def dnBackRow : OpenClaim := { program := "ytapinanmmhdpcaa", sum := "a1a88250bee12ba98afd77648bb9b0fd2ab298dd3c3bed3cf5b9d02187c7be97", func := "toponym/toponymlaw18.DnBack", spec := "dnBack", inPlace := ["internal/bytealg.IndexByteString", "internal/abi.NoEscape", "internal/bytealg.MakeNoZero"], unfollowed := true, recurses := true, apart := false }
def DnBackSaid : Prop := dnBackRow.holds Try.pinned (OpenSpec.ofChange dnBackSpec)

/-- ITS FALSE NEIGHBOUR: 'it returns false'. Refute it at one input. -/
def dnBackWrong : ChangeSpec := { name := "dnBack", fn := fun _ => fun
  | [d] => { results := [.lit (.bool false)], args := [d] }
  | _ => none }
def DnBackWrongFalsely : Prop := dnBackRow.holds Try.pinned (OpenSpec.ofChange dnBackWrong)

/-- 'toponymlaw18.DnMoves': WHATEVER THE INPUT: true; the input reads as it did. -/
def dnMovesSpec : ChangeSpec := { name := "dnMoves", fn := fun _ => fun
  | [d1, d2, d3] => { results := [.lit (.bool true)], args := [d1, d2, d3] }
  | _ => none }
def dnMovesRow : OpenClaim := { program := "ytapinanmmhdpcaa", sum := "a1a88250bee12ba98afd77648bb9b0fd2ab298dd3c3bed3cf5b9d02187c7be97", func := "toponym/toponymlaw18.DnMoves", spec := "dnMoves", inPlace := ["internal/bytealg.IndexByteString", "internal/abi.NoEscape", "internal/bytealg.MakeNoZero"], unfollowed := true, recurses := true, apart := false }
def DnMovesSaid : Prop := dnMovesRow.holds Try.pinned (OpenSpec.ofChange dnMovesSpec)

/-- ITS FALSE NEIGHBOUR: 'it returns false'. Refute it at one input. -/
def dnMovesWrong : ChangeSpec := { name := "dnMoves", fn := fun _ => fun
  | [d1, d2, d3] => { results := [.lit (.bool false)], args := [d1, d2, d3] }
  | _ => none }
def DnMovesWrongFalsely : Prop := dnMovesRow.holds Try.pinned (OpenSpec.ofChange dnMovesWrong)

/- THE SECOND FORM. 'bulk': how many values and letters a reading holds, each counted each time it is reached (what is shared counts as often as it is met; a slice's spare places count too). A statement '..UptoSaid' is the law's where the arguments, and the package variables that the reading takes, are together of bulk at most 1048576: NARROWER than '..Said'. Prove '..Said' where nothing that the law and all that it calls make is longer than what came in: it says more and counts as full. Else prove '..UptoSaid'. A law counts once. -/
mutual
def uptoBulk {H : Type} : DataW H → Nat
  | .lit (.string bytes) => bytes.length + 1
  | .lit _ => 1
  | .nil => 1
  | .ptr d => uptoBulk d + 1
  | .slice elems spare => uptoBulkAll elems + uptoBulkAll spare + 1
  | .agg parts => uptoBulkAll parts + 1
  | .iface _ d => uptoBulk d + 1
  | .map entries => uptoBulkEntries entries + 1
  | .held _ => 1
def uptoBulkAll {H : Type} : List (DataW H) → Nat
  | [] => 0
  | d :: r => uptoBulk d + uptoBulkAll r
def uptoBulkEntries {H : Type} : List (Lit × DataW H) → Nat
  | [] => 0
  | x :: r => uptoBulkEntry x + uptoBulkEntries r
def uptoBulkEntry {H : Type} : Lit × DataW H → Nat
  | (.string bytes, d) => bytes.length + uptoBulk d + 1
  | (_, d) => uptoBulk d + 1
 end
def uptoSmall : (H : Type) → List (DataW H) → Bool := fun _ ds => decide (uptoBulkAll ds ≤ 1048576)
def OpenSpec.upto (s : _root_.Go.ChangeSpec) : _root_.Go.OpenSpec := { _root_.Go.OpenSpec.ofChange s with cond := some uptoSmall }

/-- 'toponymlaw18.DnShows', WHERE WHAT IT READS IS OF BULK AT MOST 1048576: true; the input reads as it did. -/
def dnShowsUptoRow : OpenClaim := { program := "ytapinanmmhdpcaa", sum := "a1a88250bee12ba98afd77648bb9b0fd2ab298dd3c3bed3cf5b9d02187c7be97", func := "toponym/toponymlaw18.DnShows", spec := "dnShows", inPlace := ["internal/bytealg.IndexByteString", "internal/abi.NoEscape", "internal/bytealg.MakeNoZero"], apart := false, narrowed := true }
def DnShowsUptoSaid : Prop := dnShowsUptoRow.holds Try.pinned (OpenSpec.upto dnShowsSpec)

/-- 'toponymlaw18.DnForms', WHERE WHAT IT READS IS OF BULK AT MOST 1048576: true; the input reads as it did. -/
def dnFormsUptoRow : OpenClaim := { program := "ytapinanmmhdpcaa", sum := "a1a88250bee12ba98afd77648bb9b0fd2ab298dd3c3bed3cf5b9d02187c7be97", func := "toponym/toponymlaw18.DnForms", spec := "dnForms", inPlace := ["internal/bytealg.IndexByteString", "internal/abi.NoEscape", "internal/bytealg.MakeNoZero"], apart := false, narrowed := true }
def DnFormsUptoSaid : Prop := dnFormsUptoRow.holds Try.pinned (OpenSpec.upto dnFormsSpec)

/-- 'toponymlaw18.DnAbove', WHERE WHAT IT READS IS OF BULK AT MOST 1048576: true; the input reads as it did. -/
def dnAboveUptoRow : OpenClaim := { program := "ytapinanmmhdpcaa", sum := "a1a88250bee12ba98afd77648bb9b0fd2ab298dd3c3bed3cf5b9d02187c7be97", func := "toponym/toponymlaw18.DnAbove", spec := "dnAbove", inPlace := ["internal/bytealg.IndexByteString", "internal/abi.NoEscape", "internal/bytealg.MakeNoZero"], apart := false, narrowed := true }
def DnAboveUptoSaid : Prop := dnAboveUptoRow.holds Try.pinned (OpenSpec.upto dnAboveSpec)

/-- 'toponymlaw18.DnParses', WHERE WHAT IT READS IS OF BULK AT MOST 1048576: true; the input reads as it did. -/
def dnParsesUptoRow : OpenClaim := { program := "ytapinanmmhdpcaa", sum := "a1a88250bee12ba98afd77648bb9b0fd2ab298dd3c3bed3cf5b9d02187c7be97", func := "toponym/toponymlaw18.DnParses", spec := "dnParses", inPlace := ["internal/bytealg.IndexByteString", "internal/abi.NoEscape", "internal/bytealg.MakeNoZero"], apart := false, narrowed := true }
def DnParsesUptoSaid : Prop := dnParsesUptoRow.holds Try.pinned (OpenSpec.upto dnParsesSpec)

/-- 'toponymlaw18.DnBack', WHERE WHAT IT READS IS OF BULK AT MOST 1048576: true; the input reads as it did. -/
def dnBackUptoRow : OpenClaim := { program := "ytapinanmmhdpcaa", sum := "a1a88250bee12ba98afd77648bb9b0fd2ab298dd3c3bed3cf5b9d02187c7be97", func := "toponym/toponymlaw18.DnBack", spec := "dnBack", inPlace := ["internal/bytealg.IndexByteString", "internal/abi.NoEscape", "internal/bytealg.MakeNoZero"], unfollowed := true, recurses := true, apart := false, narrowed := true }
def DnBackUptoSaid : Prop := dnBackUptoRow.holds Try.pinned (OpenSpec.upto dnBackSpec)

/-- 'toponymlaw18.DnMoves', WHERE WHAT IT READS IS OF BULK AT MOST 1048576: true; the input reads as it did. -/
def dnMovesUptoRow : OpenClaim := { program := "ytapinanmmhdpcaa", sum := "a1a88250bee12ba98afd77648bb9b0fd2ab298dd3c3bed3cf5b9d02187c7be97", func := "toponym/toponymlaw18.DnMoves", spec := "dnMoves", inPlace := ["internal/bytealg.IndexByteString", "internal/abi.NoEscape", "internal/bytealg.MakeNoZero"], unfollowed := true, recurses := true, apart := false, narrowed := true }
def DnMovesUptoSaid : Prop := dnMovesUptoRow.holds Try.pinned (OpenSpec.upto dnMovesSpec)

end Rows
end Go.Proofs.Ytapinanmmhdpcaa
