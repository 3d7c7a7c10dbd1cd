import Derived.SizedLaws
import Derived.ChangeSlices
namespace Go.Proofs.YtgockfnhgmlhoaaW.PrintWords
open Go.ChangeShapes Go.WideShapes
end Go.Proofs.YtgockfnhgmlhoaaW.PrintWords
