import Derived.SizedLaws
import Derived.ChangeSlices
namespace Go.Proofs.YtdjkemhmhkpmkaaW.PrintWords
open Go.ChangeShapes Go.WideShapes
end Go.Proofs.YtdjkemhmhkpmkaaW.PrintWords
