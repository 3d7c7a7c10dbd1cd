import Derived.Test.YtajabnbonkophaaZFnExactFromBlocksWInv
import Derived.Test.YtajabnbonkophaaZFnExactFromBlocksWFootNe
namespace Go.Proofs.YtajabnbonkophaaW.PrintWords
open Go.RowKit
end Go.Proofs.YtajabnbonkophaaW.PrintWords
namespace Go.Proofs.YtajabnbonkophaaW.PrintLast
section
variable {ops : Array Oper} {a : Act} {o og : Oper} {g : Nat} {t : Tmp} {u : Bool}
end
end Go.Proofs.YtajabnbonkophaaW.PrintLast
