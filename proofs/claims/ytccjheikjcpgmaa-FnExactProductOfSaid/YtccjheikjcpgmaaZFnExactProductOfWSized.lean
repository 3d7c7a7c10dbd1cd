import Derived.SizedLaws
import Derived.ChangeSlices
namespace Go.Proofs.YtccjheikjcpgmaaW.PrintWords
open Go.ChangeShapes Go.WideShapes
end Go.Proofs.YtccjheikjcpgmaaW.PrintWords
