import Derived.Test.YtnnbgfphinemfaaZFnExactImageOfWInv
import Derived.Test.YtnnbgfphinemfaaZFnExactImageOfWFootNe
namespace Go.Proofs.YtnnbgfphinemfaaW.PrintWords
open Go.RowKit
end Go.Proofs.YtnnbgfphinemfaaW.PrintWords
namespace Go.Proofs.YtnnbgfphinemfaaW.PrintLast
section
variable {ops : Array Oper} {a : Act} {o og : Oper} {g : Nat} {t : Tmp} {u : Bool}
end
end Go.Proofs.YtnnbgfphinemfaaW.PrintLast
