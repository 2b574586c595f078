import Derived.Test.YtcjafemnkhifmaaMW
import Derived.Lib.AppendStr
import Derived.Lib.UnsafeStr
import Derived.Lib.Builder
namespace Go.Proofs.Ytcjafemnkhifmaa.MB
open Go.RowKit Go.Proofs.YtcjafemnkhifmaaW.PrintWords Go.Proofs.YtcjafemnkhifmaaW.PrintLast Go.Proofs.YtcjafemnkhifmaaW.PrintMore Go.Proofs.Ytcjafemnkhifmaa.MW
set_option linter.unusedVariables false
section
variable {P : Program} {ops : Array Oper} {rest : List Oper} {o : Oper} {a : Act} {Q : Exit → Act → World → Prop}
open Go.Proofs.YtcjafemnkhifmaaW.PrintWords.Kd
end
/-! ### unsafe.String over a row -/
section
variable {P : Program} (w : World)
end
/-! ### the cells of a variable in memory -/
theorem lz1 {w:World} {g t:Nat} {a0:Value} (h:w.heap[g]? =some (.cells #[a0] t (0,0))):w.cell? ⟨g,0,none⟩=some a0:=(blk_cell h 0).trans rfl
theorem lz6 {w:World} {g t:Nat} {a0 a1 a2 a3 a4 a5:Value} (h:w.heap[g]? =some (.cells #[a0,a1,a2,a3,a4,a5] t (0,0))):w.cell? ⟨g,0,none⟩=some a0∧w.cell? ⟨g,1,none⟩=some a1∧w.cell? ⟨g,2,none⟩=some a2∧w.cell? ⟨g,3,none⟩=some a3∧w.cell? ⟨g,4,none⟩=some a4∧w.cell? ⟨g,5,none⟩=some a5:=⟨(blk_cell h 0).trans rfl,(blk_cell h 1).trans rfl,(blk_cell h 2).trans rfl,(blk_cell h 3).trans rfl,(blk_cell h 4).trans rfl,(blk_cell h 5).trans rfl⟩
/-! ### what a call with a pointer leaves as it was -/
section
open Go.Proofs.YtcjafemnkhifmaaW.PrintWords.Kd
variable {α : Type} {d : Kd α} {e base n g g2 : Nat} {ok : Nat → Prop} {W w1 : World} {v u : Value} {A : Option Addr} {xs : List α} {o : Obj}
end
/-! ### unsafe.String of a row of the call's own -/
section
variable {P : Program} (w : World)
end
end Go.Proofs.Ytcjafemnkhifmaa.MB
