import Derived.SizedLaws
import Derived.ChangeSlices
namespace Go.Proofs.YtkbiiijmgbjnkaaW.PrintWords
open Go.ChangeShapes Go.WideShapes
end Go.Proofs.YtkbiiijmgbjnkaaW.PrintWords
