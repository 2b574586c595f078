import Derived.SizedLaws
import Derived.ChangeSlices
namespace Go.Proofs.YtcokpnajkkjclaaW.PrintWords
open Go.ChangeShapes Go.WideShapes
end Go.Proofs.YtcokpnajkkjclaaW.PrintWords
