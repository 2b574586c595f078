import Derived.Test.YthdcofcikmeeeaaMR
import Derived.Test.YthdcofcikmeeeaaGA0
/- What came in, of this program's own types, opened. -/
namespace Go.Proofs.Ythdcofcikmeeeaa.OA
open Go.ChangeShapes Go.WideShapes Go.ChangeAt Go.RowKit Go.Proofs.Ythdcofcikmeeeaa Go.Proofs.Ythdcofcikmeeeaa.GA Go.Proofs.YthdcofcikmeeeaaW.PrintWords Go.Proofs.YthdcofcikmeeeaaW.PrintLast Go.Proofs.YthdcofcikmeeeaaW.PrintMore
set_option linter.unusedVariables false
theorem bytes21 : Try.prog.bytesOf 21 = 4 := by kernel_rfl
end Go.Proofs.Ythdcofcikmeeeaa.OA
