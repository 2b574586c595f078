import Derived.Test.YtkbiiijmgbjnkaaMR
import Derived.Test.YtkbiiijmgbjnkaaGA0
/- What came in, of this program's own types, opened. -/
namespace Go.Proofs.Ytkbiiijmgbjnkaa.OA
open Go.ChangeShapes Go.WideShapes Go.ChangeAt Go.RowKit Go.Proofs.Ytkbiiijmgbjnkaa Go.Proofs.Ytkbiiijmgbjnkaa.GA Go.Proofs.YtkbiiijmgbjnkaaW.PrintWords Go.Proofs.YtkbiiijmgbjnkaaW.PrintLast Go.Proofs.YtkbiiijmgbjnkaaW.PrintMore
set_option linter.unusedVariables false
theorem bytes3 : Try.prog.bytesOf 3 = 8 := by kernel_rfl
end Go.Proofs.Ytkbiiijmgbjnkaa.OA
