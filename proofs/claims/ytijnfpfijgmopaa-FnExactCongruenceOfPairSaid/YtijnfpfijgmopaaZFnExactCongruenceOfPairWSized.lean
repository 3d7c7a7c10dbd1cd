import Derived.SizedLaws
import Derived.ChangeSlices
namespace Go.Proofs.YtijnfpfijgmopaaW.PrintWords
open Go.ChangeShapes Go.WideShapes
end Go.Proofs.YtijnfpfijgmopaaW.PrintWords
