import Derived.SizedLaws
import Derived.ChangeSlices
namespace Go.Proofs.YtnnbgfphinemfaaW.PrintWords
open Go.ChangeShapes Go.WideShapes
end Go.Proofs.YtnnbgfphinemfaaW.PrintWords
