import Derived.SizedLaws
import Derived.ChangeSlices
namespace Go.Proofs.YtajabnbonkophaaW.PrintWords
open Go.ChangeShapes Go.WideShapes
end Go.Proofs.YtajabnbonkophaaW.PrintWords
