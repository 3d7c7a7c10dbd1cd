import Derived.Test.YtccjheikjcpgmaaZFnExactProductOfWInv
import Derived.Test.YtccjheikjcpgmaaZFnExactProductOfWFootNe
namespace Go.Proofs.YtccjheikjcpgmaaW.PrintWords
open Go.RowKit
end Go.Proofs.YtccjheikjcpgmaaW.PrintWords
namespace Go.Proofs.YtccjheikjcpgmaaW.PrintLast
section
variable {ops : Array Oper} {a : Act} {o og : Oper} {g : Nat} {t : Tmp} {u : Bool}
end
end Go.Proofs.YtccjheikjcpgmaaW.PrintLast
