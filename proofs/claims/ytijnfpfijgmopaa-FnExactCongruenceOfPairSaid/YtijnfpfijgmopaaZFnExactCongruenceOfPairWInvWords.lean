import Derived.Test.YtijnfpfijgmopaaZFnExactCongruenceOfPairWInv
import Derived.Test.YtijnfpfijgmopaaZFnExactCongruenceOfPairWFootNe
namespace Go.Proofs.YtijnfpfijgmopaaW.PrintWords
open Go.RowKit
end Go.Proofs.YtijnfpfijgmopaaW.PrintWords
namespace Go.Proofs.YtijnfpfijgmopaaW.PrintLast
section
variable {ops : Array Oper} {a : Act} {o og : Oper} {g : Nat} {t : Tmp} {u : Bool}
end
end Go.Proofs.YtijnfpfijgmopaaW.PrintLast
