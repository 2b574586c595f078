import Derived.SizedLaws
import Derived.ChangeSlices
namespace Go.Proofs.YtcjafemnkhifmaaW.PrintWords
open Go.ChangeShapes Go.WideShapes
end Go.Proofs.YtcjafemnkhifmaaW.PrintWords
