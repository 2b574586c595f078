import Derived.SizedLaws
import Derived.ChangeSlices
namespace Go.Proofs.YtapinanmmhdpcaaW.PrintWords
open Go.ChangeShapes Go.WideShapes
end Go.Proofs.YtapinanmmhdpcaaW.PrintWords
