/-
  No cell of these rows narrows 'for every input' (looked for: loops, veiled, ifaces, maps, wideKeys, modest, calm, conditions, laid).
  DERIVED. THE GIVEN ROWS OF THIS SEAT. 5 by the template 'for every input the law returns true; each argument reads behind the call as it read before'; 0 by the template 'total and deterministic' (their statements: YtcokpnajkkjclaaTotals.lean).
  GIVEN WITH THE SEED: the statements are not yours to turn. If you find one false, say at which input.
  Laid BY PROGRAM, IN A SANDBOX (cutbox-rows.mjs): the forced cells as the released guide's own fill.sh prints them over the translation 5c3a8e6531e5acf2… (all of the seat's roots in one cut). By AI agents, Wed Nov 11 2026. No macro, syntax, notation, axiom, sorry.
-/
import Derived.Test.YtcokpnajkkjclaaChecked
import GoSem.Claim
import GoSem.ClaimJoined
import GoSem.ClaimMapViews
import Derived.JoinedTies
import Derived.KernelRfl
namespace Go.Proofs.Ytcokpnajkkjclaa
/- THE CELL 'sum', in the pinned program and in every row, IS THE sha256 OF THE DUMP (.gsa) THAT YtcokpnajkkjclaaProg.lean LOADS. Nothing in Lean hashes anything: it is a label: what it is worth is what the hold of that sum in a sandbox is worth. -/
noncomputable def Try.pinned : Pinned := { name := "ytcokpnajkkjclaa", sum := "5c3a8e6531e5acf20af2382799f06be4dc4f9dda2df1e3d103cbbf1b72956f84", checked := Try.checked }
namespace Rows
def none {H : Type} : Left H := { results := [], args := [] }

/-- 'toponymlaw02.SpanFinds': WHATEVER THE INPUT: true; the input reads as it did. -/
def spanFindsSpec : ChangeSpec := { name := "spanFinds", fn := fun _ => fun
  | [d1, d2, d3] => { results := [.lit (.bool true)], args := [d1, d2, d3] }
  | _ => none }
def spanFindsRow : OpenClaim := { program := "ytcokpnajkkjclaa", sum := "5c3a8e6531e5acf20af2382799f06be4dc4f9dda2df1e3d103cbbf1b72956f84", func := "toponym/toponymlaw02.SpanFinds", spec := "spanFinds", unfollowed := true, recurses := true, apart := false }
def SpanFindsSaid : Prop := spanFindsRow.holds Try.pinned (OpenSpec.ofChange spanFindsSpec)

/-- ITS FALSE NEIGHBOUR: 'it returns false'. Refute it at one input. -/
def spanFindsWrong : ChangeSpec := { name := "spanFinds", fn := fun _ => fun
  | [d1, d2, d3] => { results := [.lit (.bool false)], args := [d1, d2, d3] }
  | _ => none }
def SpanFindsWrongFalsely : Prop := spanFindsRow.holds Try.pinned (OpenSpec.ofChange spanFindsWrong)

/-- 'toponymlaw02.SpanBuilds': WHATEVER THE INPUT: true; the input reads as it did. -/
def spanBuildsSpec : ChangeSpec := { name := "spanBuilds", fn := fun _ => fun
  | [d] => { results := [.lit (.bool true)], args := [d] }
  | _ => none }
def spanBuildsRow : OpenClaim := { program := "ytcokpnajkkjclaa", sum := "5c3a8e6531e5acf20af2382799f06be4dc4f9dda2df1e3d103cbbf1b72956f84", func := "toponym/toponymlaw02.SpanBuilds", spec := "spanBuilds", unfollowed := true, recurses := true, apart := false }
def SpanBuildsSaid : Prop := spanBuildsRow.holds Try.pinned (OpenSpec.ofChange spanBuildsSpec)

/-- ITS FALSE NEIGHBOUR: 'it returns false'. Refute it at one input. -/
def spanBuildsWrong : ChangeSpec := { name := "spanBuilds", fn := fun _ => fun
  | [d] => { results := [.lit (.bool false)], args := [d] }
  | _ => none }
def SpanBuildsWrongFalsely : Prop := spanBuildsRow.holds Try.pinned (OpenSpec.ofChange spanBuildsWrong)

/-- 'toponymlaw02.SpanLast': WHATEVER THE INPUT: true; the input reads as it did. -/
def spanLastSpec : ChangeSpec := { name := "spanLast", fn := fun _ => fun
  | [d1, d2] => { results := [.lit (.bool true)], args := [d1, d2] }
  | _ => none }
def spanLastRow : OpenClaim := { program := "ytcokpnajkkjclaa", sum := "5c3a8e6531e5acf20af2382799f06be4dc4f9dda2df1e3d103cbbf1b72956f84", func := "toponym/toponymlaw02.SpanLast", spec := "spanLast", unfollowed := true, recurses := true, apart := false }
def SpanLastSaid : Prop := spanLastRow.holds Try.pinned (OpenSpec.ofChange spanLastSpec)

/-- ITS FALSE NEIGHBOUR: 'it returns false'. Refute it at one input. -/
def spanLastWrong : ChangeSpec := { name := "spanLast", fn := fun _ => fun
  | [d1, d2] => { results := [.lit (.bool false)], args := [d1, d2] }
  | _ => none }
def SpanLastWrongFalsely : Prop := spanLastRow.holds Try.pinned (OpenSpec.ofChange spanLastWrong)

/-- 'toponymlaw02.SpanLeast': WHATEVER THE INPUT: true; the input reads as it did. -/
def spanLeastSpec : ChangeSpec := { name := "spanLeast", fn := fun _ => fun
  | [d] => { results := [.lit (.bool true)], args := [d] }
  | _ => none }
def spanLeastRow : OpenClaim := { program := "ytcokpnajkkjclaa", sum := "5c3a8e6531e5acf20af2382799f06be4dc4f9dda2df1e3d103cbbf1b72956f84", func := "toponym/toponymlaw02.SpanLeast", spec := "spanLeast", unfollowed := true, recurses := true, apart := false }
def SpanLeastSaid : Prop := spanLeastRow.holds Try.pinned (OpenSpec.ofChange spanLeastSpec)

/-- ITS FALSE NEIGHBOUR: 'it returns false'. Refute it at one input. -/
def spanLeastWrong : ChangeSpec := { name := "spanLeast", fn := fun _ => fun
  | [d] => { results := [.lit (.bool false)], args := [d] }
  | _ => none }
def SpanLeastWrongFalsely : Prop := spanLeastRow.holds Try.pinned (OpenSpec.ofChange spanLeastWrong)

/-- 'toponymlaw02.SpanSame': WHATEVER THE INPUT: true; the input reads as it did. -/
def spanSameSpec : ChangeSpec := { name := "spanSame", fn := fun _ => fun
  | [d1, d2] => { results := [.lit (.bool true)], args := [d1, d2] }
  | _ => none }
def spanSameRow : OpenClaim := { program := "ytcokpnajkkjclaa", sum := "5c3a8e6531e5acf20af2382799f06be4dc4f9dda2df1e3d103cbbf1b72956f84", func := "toponym/toponymlaw02.SpanSame", spec := "spanSame", unfollowed := true, recurses := true, apart := false }
def SpanSameSaid : Prop := spanSameRow.holds Try.pinned (OpenSpec.ofChange spanSameSpec)

/-- ITS FALSE NEIGHBOUR: 'it returns false'. Refute it at one input. -/
def spanSameWrong : ChangeSpec := { name := "spanSame", fn := fun _ => fun
  | [d1, d2] => { results := [.lit (.bool false)], args := [d1, d2] }
  | _ => none }
def SpanSameWrongFalsely : Prop := spanSameRow.holds Try.pinned (OpenSpec.ofChange spanSameWrong)

/- THE SECOND FORM. 'bulk': how many values and letters a reading holds, each counted each time it is reached (what is shared counts as often as it is met; a slice's spare places count too). A statement '..UptoSaid' is the law's where the arguments, and the package variables that the reading takes, are together of bulk at most 1048576: NARROWER than '..Said'. Prove '..Said' where nothing that the law and all that it calls make is longer than what came in: it says more and counts as full. Else prove '..UptoSaid'. A law counts once. -/
mutual
def uptoBulk {H : Type} : DataW H → Nat
  | .lit (.string bytes) => bytes.length + 1
  | .lit _ => 1
  | .nil => 1
  | .ptr d => uptoBulk d + 1
  | .slice elems spare => uptoBulkAll elems + uptoBulkAll spare + 1
  | .agg parts => uptoBulkAll parts + 1
  | .iface _ d => uptoBulk d + 1
  | .map entries => uptoBulkEntries entries + 1
  | .held _ => 1
def uptoBulkAll {H : Type} : List (DataW H) → Nat
  | [] => 0
  | d :: r => uptoBulk d + uptoBulkAll r
def uptoBulkEntries {H : Type} : List (Lit × DataW H) → Nat
  | [] => 0
  | x :: r => uptoBulkEntry x + uptoBulkEntries r
def uptoBulkEntry {H : Type} : Lit × DataW H → Nat
  | (.string bytes, d) => bytes.length + uptoBulk d + 1
  | (_, d) => uptoBulk d + 1
 end
def uptoSmall : (H : Type) → List (DataW H) → Bool := fun _ ds => decide (uptoBulkAll ds ≤ 1048576)
def OpenSpec.upto (s : _root_.Go.ChangeSpec) : _root_.Go.OpenSpec := { _root_.Go.OpenSpec.ofChange s with cond := some uptoSmall }

/-- 'toponymlaw02.SpanFinds', WHERE WHAT IT READS IS OF BULK AT MOST 1048576: true; the input reads as it did. -/
def spanFindsUptoRow : OpenClaim := { program := "ytcokpnajkkjclaa", sum := "5c3a8e6531e5acf20af2382799f06be4dc4f9dda2df1e3d103cbbf1b72956f84", func := "toponym/toponymlaw02.SpanFinds", spec := "spanFinds", unfollowed := true, recurses := true, apart := false, narrowed := true }
def SpanFindsUptoSaid : Prop := spanFindsUptoRow.holds Try.pinned (OpenSpec.upto spanFindsSpec)

/-- 'toponymlaw02.SpanBuilds', WHERE WHAT IT READS IS OF BULK AT MOST 1048576: true; the input reads as it did. -/
def spanBuildsUptoRow : OpenClaim := { program := "ytcokpnajkkjclaa", sum := "5c3a8e6531e5acf20af2382799f06be4dc4f9dda2df1e3d103cbbf1b72956f84", func := "toponym/toponymlaw02.SpanBuilds", spec := "spanBuilds", unfollowed := true, recurses := true, apart := false, narrowed := true }
def SpanBuildsUptoSaid : Prop := spanBuildsUptoRow.holds Try.pinned (OpenSpec.upto spanBuildsSpec)

/-- 'toponymlaw02.SpanLast', WHERE WHAT IT READS IS OF BULK AT MOST 1048576: true; the input reads as it did. -/
def spanLastUptoRow : OpenClaim := { program := "ytcokpnajkkjclaa", sum := "5c3a8e6531e5acf20af2382799f06be4dc4f9dda2df1e3d103cbbf1b72956f84", func := "toponym/toponymlaw02.SpanLast", spec := "spanLast", unfollowed := true, recurses := true, apart := false, narrowed := true }
def SpanLastUptoSaid : Prop := spanLastUptoRow.holds Try.pinned (OpenSpec.upto spanLastSpec)

/-- 'toponymlaw02.SpanLeast', WHERE WHAT IT READS IS OF BULK AT MOST 1048576: true; the input reads as it did. -/
def spanLeastUptoRow : OpenClaim := { program := "ytcokpnajkkjclaa", sum := "5c3a8e6531e5acf20af2382799f06be4dc4f9dda2df1e3d103cbbf1b72956f84", func := "toponym/toponymlaw02.SpanLeast", spec := "spanLeast", unfollowed := true, recurses := true, apart := false, narrowed := true }
def SpanLeastUptoSaid : Prop := spanLeastUptoRow.holds Try.pinned (OpenSpec.upto spanLeastSpec)

/-- 'toponymlaw02.SpanSame', WHERE WHAT IT READS IS OF BULK AT MOST 1048576: true; the input reads as it did. -/
def spanSameUptoRow : OpenClaim := { program := "ytcokpnajkkjclaa", sum := "5c3a8e6531e5acf20af2382799f06be4dc4f9dda2df1e3d103cbbf1b72956f84", func := "toponym/toponymlaw02.SpanSame", spec := "spanSame", unfollowed := true, recurses := true, apart := false, narrowed := true }
def SpanSameUptoSaid : Prop := spanSameUptoRow.holds Try.pinned (OpenSpec.upto spanSameSpec)

end Rows
end Go.Proofs.Ytcokpnajkkjclaa
