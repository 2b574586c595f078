/-
  No cell of these rows narrows 'for every input' (looked for: loops, veiled, ifaces, maps, wideKeys, modest, calm, conditions, laid).
  DERIVED. THE GIVEN ROWS OF THIS SEAT. 5 by the template 'for every input the law returns true; each argument reads behind the call as it read before'; 0 by the template 'total and deterministic' (their statements: YtdjkemhmhkpmkaaTotals.lean).
  GIVEN WITH THE SEED: the statements are not yours to turn. If you find one false, say at which input.
  Laid BY PROGRAM, IN A SANDBOX (cutbox-rows.mjs): the forced cells as the released guide's own fill.sh prints them over the translation db2371f22e0808d7… (all of the seat's roots in one cut). By AI agents, Wed Nov 11 2026. No macro, syntax, notation, axiom, sorry.
-/
import Derived.Test.YtdjkemhmhkpmkaaChecked
import GoSem.Claim
import GoSem.ClaimJoined
import GoSem.ClaimMapViews
import Derived.JoinedTies
import Derived.KernelRfl
namespace Go.Proofs.Ytdjkemhmhkpmkaa
/- THE CELL 'sum', in the pinned program and in every row, IS THE sha256 OF THE DUMP (.gsa) THAT YtdjkemhmhkpmkaaProg.lean LOADS. Nothing in Lean hashes anything: it is a label: what it is worth is what the hold of that sum in a sandbox is worth. -/
noncomputable def Try.pinned : Pinned := { name := "ytdjkemhmhkpmkaa", sum := "db2371f22e0808d7fb9218b573e883fc8bf7bdf954ed7f846c0402bc5b812503", checked := Try.checked }
namespace Rows
def none {H : Type} : Left H := { results := [], args := [] }

/-- 'toponymlaw27.ReplyEncodes': WHATEVER THE INPUT: true; the input reads as it did. -/
def replyEncodesSpec : ChangeSpec := { name := "replyEncodes", fn := fun _ => fun
  | [d] => { results := [.lit (.bool true)], args := [d] }
  | _ => none }
def replyEncodesRow : OpenClaim := { program := "ytdjkemhmhkpmkaa", sum := "db2371f22e0808d7fb9218b573e883fc8bf7bdf954ed7f846c0402bc5b812503", func := "toponym/toponymlaw27.ReplyEncodes", spec := "replyEncodes", inPlace := ["internal/abi.NoEscape"], unfollowed := true, recurses := true, apart := false }
def ReplyEncodesSaid : Prop := replyEncodesRow.holds Try.pinned (OpenSpec.ofChange replyEncodesSpec)

/-- ITS FALSE NEIGHBOUR: 'it returns false'. Refute it at one input. -/
def replyEncodesWrong : ChangeSpec := { name := "replyEncodes", fn := fun _ => fun
  | [d] => { results := [.lit (.bool false)], args := [d] }
  | _ => none }
def ReplyEncodesWrongFalsely : Prop := replyEncodesRow.holds Try.pinned (OpenSpec.ofChange replyEncodesWrong)

/-- 'toponymlaw27.ReplyDecodes': WHATEVER THE INPUT: true; the input reads as it did. -/
def replyDecodesSpec : ChangeSpec := { name := "replyDecodes", fn := fun _ => fun
  | [d] => { results := [.lit (.bool true)], args := [d] }
  | _ => none }
def replyDecodesRow : OpenClaim := { program := "ytdjkemhmhkpmkaa", sum := "db2371f22e0808d7fb9218b573e883fc8bf7bdf954ed7f846c0402bc5b812503", func := "toponym/toponymlaw27.ReplyDecodes", spec := "replyDecodes", inPlace := ["internal/abi.NoEscape"], unfollowed := true, recurses := true, apart := false }
def ReplyDecodesSaid : Prop := replyDecodesRow.holds Try.pinned (OpenSpec.ofChange replyDecodesSpec)

/-- ITS FALSE NEIGHBOUR: 'it returns false'. Refute it at one input. -/
def replyDecodesWrong : ChangeSpec := { name := "replyDecodes", fn := fun _ => fun
  | [d] => { results := [.lit (.bool false)], args := [d] }
  | _ => none }
def ReplyDecodesWrongFalsely : Prop := replyDecodesRow.holds Try.pinned (OpenSpec.ofChange replyDecodesWrong)

/-- 'toponymlaw27.ReplySame': WHATEVER THE INPUT: true; the input reads as it did. -/
def replySameSpec : ChangeSpec := { name := "replySame", fn := fun _ => fun
  | [d1, d2] => { results := [.lit (.bool true)], args := [d1, d2] }
  | _ => none }
def replySameRow : OpenClaim := { program := "ytdjkemhmhkpmkaa", sum := "db2371f22e0808d7fb9218b573e883fc8bf7bdf954ed7f846c0402bc5b812503", func := "toponym/toponymlaw27.ReplySame", spec := "replySame", inPlace := ["internal/abi.NoEscape"], unfollowed := true, recurses := true, apart := false }
def ReplySameSaid : Prop := replySameRow.holds Try.pinned (OpenSpec.ofChange replySameSpec)

/-- ITS FALSE NEIGHBOUR: 'it returns false'. Refute it at one input. -/
def replySameWrong : ChangeSpec := { name := "replySame", fn := fun _ => fun
  | [d1, d2] => { results := [.lit (.bool false)], args := [d1, d2] }
  | _ => none }
def ReplySameWrongFalsely : Prop := replySameRow.holds Try.pinned (OpenSpec.ofChange replySameWrong)

/-- 'toponymlaw27.ReplyBack': WHATEVER THE INPUT: true; the input reads as it did. -/
def replyBackSpec : ChangeSpec := { name := "replyBack", fn := fun _ => fun
  | [d] => { results := [.lit (.bool true)], args := [d] }
  | _ => none }
def replyBackRow : OpenClaim := { program := "ytdjkemhmhkpmkaa", sum := "db2371f22e0808d7fb9218b573e883fc8bf7bdf954ed7f846c0402bc5b812503", func := "toponym/toponymlaw27.ReplyBack", spec := "replyBack", inPlace := ["internal/abi.NoEscape"], unfollowed := true, recurses := true, apart := false }
def ReplyBackSaid : Prop := replyBackRow.holds Try.pinned (OpenSpec.ofChange replyBackSpec)

/-- ITS FALSE NEIGHBOUR: 'it returns false'. Refute it at one input. -/
def replyBackWrong : ChangeSpec := { name := "replyBack", fn := fun _ => fun
  | [d] => { results := [.lit (.bool false)], args := [d] }
  | _ => none }
def ReplyBackWrongFalsely : Prop := replyBackRow.holds Try.pinned (OpenSpec.ofChange replyBackWrong)

/-- 'toponymlaw27.ReplyForms': WHATEVER THE INPUT: true; the input reads as it did. -/
def replyFormsSpec : ChangeSpec := { name := "replyForms", fn := fun _ => fun
  | [d] => { results := [.lit (.bool true)], args := [d] }
  | _ => none }
def replyFormsRow : OpenClaim := { program := "ytdjkemhmhkpmkaa", sum := "db2371f22e0808d7fb9218b573e883fc8bf7bdf954ed7f846c0402bc5b812503", func := "toponym/toponymlaw27.ReplyForms", spec := "replyForms", inPlace := ["internal/abi.NoEscape"], unfollowed := true, recurses := true, apart := false }
def ReplyFormsSaid : Prop := replyFormsRow.holds Try.pinned (OpenSpec.ofChange replyFormsSpec)

/-- ITS FALSE NEIGHBOUR: 'it returns false'. Refute it at one input. -/
def replyFormsWrong : ChangeSpec := { name := "replyForms", fn := fun _ => fun
  | [d] => { results := [.lit (.bool false)], args := [d] }
  | _ => none }
def ReplyFormsWrongFalsely : Prop := replyFormsRow.holds Try.pinned (OpenSpec.ofChange replyFormsWrong)

/- THE SECOND FORM. 'bulk': how many values and letters a reading holds, each counted each time it is reached (what is shared counts as often as it is met; a slice's spare places count too). A statement '..UptoSaid' is the law's where the arguments, and the package variables that the reading takes, are together of bulk at most 1048576: NARROWER than '..Said'. Prove '..Said' where nothing that the law and all that it calls make is longer than what came in: it says more and counts as full. Else prove '..UptoSaid'. A law counts once. -/
mutual
def uptoBulk {H : Type} : DataW H → Nat
  | .lit (.string bytes) => bytes.length + 1
  | .lit _ => 1
  | .nil => 1
  | .ptr d => uptoBulk d + 1
  | .slice elems spare => uptoBulkAll elems + uptoBulkAll spare + 1
  | .agg parts => uptoBulkAll parts + 1
  | .iface _ d => uptoBulk d + 1
  | .map entries => uptoBulkEntries entries + 1
  | .held _ => 1
def uptoBulkAll {H : Type} : List (DataW H) → Nat
  | [] => 0
  | d :: r => uptoBulk d + uptoBulkAll r
def uptoBulkEntries {H : Type} : List (Lit × DataW H) → Nat
  | [] => 0
  | x :: r => uptoBulkEntry x + uptoBulkEntries r
def uptoBulkEntry {H : Type} : Lit × DataW H → Nat
  | (.string bytes, d) => bytes.length + uptoBulk d + 1
  | (_, d) => uptoBulk d + 1
 end
def uptoSmall : (H : Type) → List (DataW H) → Bool := fun _ ds => decide (uptoBulkAll ds ≤ 1048576)
def OpenSpec.upto (s : _root_.Go.ChangeSpec) : _root_.Go.OpenSpec := { _root_.Go.OpenSpec.ofChange s with cond := some uptoSmall }

/-- 'toponymlaw27.ReplyEncodes', WHERE WHAT IT READS IS OF BULK AT MOST 1048576: true; the input reads as it did. -/
def replyEncodesUptoRow : OpenClaim := { program := "ytdjkemhmhkpmkaa", sum := "db2371f22e0808d7fb9218b573e883fc8bf7bdf954ed7f846c0402bc5b812503", func := "toponym/toponymlaw27.ReplyEncodes", spec := "replyEncodes", inPlace := ["internal/abi.NoEscape"], unfollowed := true, recurses := true, apart := false, narrowed := true }
def ReplyEncodesUptoSaid : Prop := replyEncodesUptoRow.holds Try.pinned (OpenSpec.upto replyEncodesSpec)

/-- 'toponymlaw27.ReplyDecodes', WHERE WHAT IT READS IS OF BULK AT MOST 1048576: true; the input reads as it did. -/
def replyDecodesUptoRow : OpenClaim := { program := "ytdjkemhmhkpmkaa", sum := "db2371f22e0808d7fb9218b573e883fc8bf7bdf954ed7f846c0402bc5b812503", func := "toponym/toponymlaw27.ReplyDecodes", spec := "replyDecodes", inPlace := ["internal/abi.NoEscape"], unfollowed := true, recurses := true, apart := false, narrowed := true }
def ReplyDecodesUptoSaid : Prop := replyDecodesUptoRow.holds Try.pinned (OpenSpec.upto replyDecodesSpec)

/-- 'toponymlaw27.ReplySame', WHERE WHAT IT READS IS OF BULK AT MOST 1048576: true; the input reads as it did. -/
def replySameUptoRow : OpenClaim := { program := "ytdjkemhmhkpmkaa", sum := "db2371f22e0808d7fb9218b573e883fc8bf7bdf954ed7f846c0402bc5b812503", func := "toponym/toponymlaw27.ReplySame", spec := "replySame", inPlace := ["internal/abi.NoEscape"], unfollowed := true, recurses := true, apart := false, narrowed := true }
def ReplySameUptoSaid : Prop := replySameUptoRow.holds Try.pinned (OpenSpec.upto replySameSpec)

/-- 'toponymlaw27.ReplyBack', WHERE WHAT IT READS IS OF BULK AT MOST 1048576: true; the input reads as it did. -/
def replyBackUptoRow : OpenClaim := { program := "ytdjkemhmhkpmkaa", sum := "db2371f22e0808d7fb9218b573e883fc8bf7bdf954ed7f846c0402bc5b812503", func := "toponym/toponymlaw27.ReplyBack", spec := "replyBack", inPlace := ["internal/abi.NoEscape"], unfollowed := true, recurses := true, apart := false, narrowed := true }
def ReplyBackUptoSaid : Prop := replyBackUptoRow.holds Try.pinned (OpenSpec.upto replyBackSpec)

/-- 'toponymlaw27.ReplyForms', WHERE WHAT IT READS IS OF BULK AT MOST 1048576: true; the input reads as it did. -/
def replyFormsUptoRow : OpenClaim := { program := "ytdjkemhmhkpmkaa", sum := "db2371f22e0808d7fb9218b573e883fc8bf7bdf954ed7f846c0402bc5b812503", func := "toponym/toponymlaw27.ReplyForms", spec := "replyForms", inPlace := ["internal/abi.NoEscape"], unfollowed := true, recurses := true, apart := false, narrowed := true }
def ReplyFormsUptoSaid : Prop := replyFormsUptoRow.holds Try.pinned (OpenSpec.upto replyFormsSpec)

end Rows
end Go.Proofs.Ytdjkemhmhkpmkaa
