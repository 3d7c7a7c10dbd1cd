import Derived.Test.YtgockfnhgmlhoaaZFnExactImageSubWInv
import Derived.Test.YtgockfnhgmlhoaaZFnExactImageSubWFootNe
namespace Go.Proofs.YtgockfnhgmlhoaaW.PrintWords
open Go.RowKit
end Go.Proofs.YtgockfnhgmlhoaaW.PrintWords
namespace Go.Proofs.YtgockfnhgmlhoaaW.PrintLast
section
variable {ops : Array Oper} {a : Act} {o og : Oper} {g : Nat} {t : Tmp} {u : Bool}
end
end Go.Proofs.YtgockfnhgmlhoaaW.PrintLast
