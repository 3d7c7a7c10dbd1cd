/-
  No cell of these rows narrows 'for every input' (looked for: loops, veiled, ifaces, maps, wideKeys, modest, calm, conditions, laid).
  DERIVED. THE GIVEN ROWS OF THIS SEAT. 4 by the template 'for every input the law returns true; each argument reads behind the call as it read before'; 0 by the template 'total and deterministic' (their statements: YtccjheikjcpgmaaTotals.lean).
  GIVEN WITH THE SEED: the statements are not yours to turn. If you find one false, say at which input.
  Laid BY PROGRAM, IN A SANDBOX (cutbox-rows.mjs): the forced cells as the released guide's own fill.sh prints them over the translation c7272e6737f0cd36… (all of the seat's roots in one cut). By AI agents, Wed Nov 11 2026. No macro, syntax, notation, axiom, sorry.
-/
import Derived.Test.YtccjheikjcpgmaaChecked
import GoSem.Claim
import GoSem.ClaimJoined
import GoSem.ClaimMapViews
import Derived.JoinedTies
import Derived.KernelRfl
namespace Go.Proofs.Ytccjheikjcpgmaa
/- THE CELL 'sum', in the pinned program and in every row, IS THE sha256 OF THE DUMP (.gsa) THAT YtccjheikjcpgmaaProg.lean LOADS. Nothing in Lean hashes anything: it is a label: what it is worth is what the hold of that sum in a sandbox is worth. -/
noncomputable def Try.pinned : Pinned := { name := "ytccjheikjcpgmaa", sum := "c7272e6737f0cd369d9743c42020c75dcca321d6589563fce7da05721f18bba3", checked := Try.checked }
namespace Rows
def none {H : Type} : Left H := { results := [], args := [] }

/-- 'laws.FnExactProductOf': WHATEVER THE INPUT: true; the input reads as it did. -/
def fnExactProductOfSpec : ChangeSpec := { name := "fnExactProductOf", fn := fun _ => fun
  | [d1, d2] => { results := [.lit (.bool true)], args := [d1, d2] }
  | _ => none }
def fnExactProductOfRow : OpenClaim := { program := "ytccjheikjcpgmaa", sum := "c7272e6737f0cd369d9743c42020c75dcca321d6589563fce7da05721f18bba3", func := "loop.example/g01078/laws.FnExactProductOf", spec := "fnExactProductOf", apart := false }
def FnExactProductOfSaid : Prop := fnExactProductOfRow.holds Try.pinned (OpenSpec.ofChange fnExactProductOfSpec)

/-- ITS FALSE NEIGHBOUR: 'it returns false'. Refute it at one input. -/
def fnExactProductOfWrong : ChangeSpec := { name := "fnExactProductOf", fn := fun _ => fun
  | [d1, d2] => { results := [.lit (.bool false)], args := [d1, d2] }
  | _ => none }
def FnExactProductOfWrongFalsely : Prop := fnExactProductOfRow.holds Try.pinned (OpenSpec.ofChange fnExactProductOfWrong)

/-- 'laws.FnExactDoCommute': WHATEVER THE INPUT: true; the input reads as it did. -/
def fnExactDoCommuteSpec : ChangeSpec := { name := "fnExactDoCommute", fn := fun _ => fun
  | [d1, d2, d3] => { results := [.lit (.bool true)], args := [d1, d2, d3] }
  | _ => none }
def fnExactDoCommuteRow : OpenClaim := { program := "ytccjheikjcpgmaa", sum := "c7272e6737f0cd369d9743c42020c75dcca321d6589563fce7da05721f18bba3", func := "loop.example/g01078/laws.FnExactDoCommute", spec := "fnExactDoCommute", apart := false }
def FnExactDoCommuteSaid : Prop := fnExactDoCommuteRow.holds Try.pinned (OpenSpec.ofChange fnExactDoCommuteSpec)

/-- ITS FALSE NEIGHBOUR: 'it returns false'. Refute it at one input. -/
def fnExactDoCommuteWrong : ChangeSpec := { name := "fnExactDoCommute", fn := fun _ => fun
  | [d1, d2, d3] => { results := [.lit (.bool false)], args := [d1, d2, d3] }
  | _ => none }
def FnExactDoCommuteWrongFalsely : Prop := fnExactDoCommuteRow.holds Try.pinned (OpenSpec.ofChange fnExactDoCommuteWrong)

/-- 'laws.FnExactComposeFunctions': WHATEVER THE INPUT: true; the input reads as it did. -/
def fnExactComposeFunctionsSpec : ChangeSpec := { name := "fnExactComposeFunctions", fn := fun _ => fun
  | [d1, d2, d3] => { results := [.lit (.bool true)], args := [d1, d2, d3] }
  | _ => none }
def fnExactComposeFunctionsRow : OpenClaim := { program := "ytccjheikjcpgmaa", sum := "c7272e6737f0cd369d9743c42020c75dcca321d6589563fce7da05721f18bba3", func := "loop.example/g01078/laws.FnExactComposeFunctions", spec := "fnExactComposeFunctions", apart := false }
def FnExactComposeFunctionsSaid : Prop := fnExactComposeFunctionsRow.holds Try.pinned (OpenSpec.ofChange fnExactComposeFunctionsSpec)

/-- ITS FALSE NEIGHBOUR: 'it returns false'. Refute it at one input. -/
def fnExactComposeFunctionsWrong : ChangeSpec := { name := "fnExactComposeFunctions", fn := fun _ => fun
  | [d1, d2, d3] => { results := [.lit (.bool false)], args := [d1, d2, d3] }
  | _ => none }
def FnExactComposeFunctionsWrongFalsely : Prop := fnExactComposeFunctionsRow.holds Try.pinned (OpenSpec.ofChange fnExactComposeFunctionsWrong)

/-- 'laws.FnExactMinorOf': WHATEVER THE INPUT: true; the input reads as it did. -/
def fnExactMinorOfSpec : ChangeSpec := { name := "fnExactMinorOf", fn := fun _ => fun
  | [d1, d2, d3, d4] => { results := [.lit (.bool true)], args := [d1, d2, d3, d4] }
  | _ => none }
def fnExactMinorOfRow : OpenClaim := { program := "ytccjheikjcpgmaa", sum := "c7272e6737f0cd369d9743c42020c75dcca321d6589563fce7da05721f18bba3", func := "loop.example/g01078/laws.FnExactMinorOf", spec := "fnExactMinorOf", apart := false }
def FnExactMinorOfSaid : Prop := fnExactMinorOfRow.holds Try.pinned (OpenSpec.ofChange fnExactMinorOfSpec)

/-- ITS FALSE NEIGHBOUR: 'it returns false'. Refute it at one input. -/
def fnExactMinorOfWrong : ChangeSpec := { name := "fnExactMinorOf", fn := fun _ => fun
  | [d1, d2, d3, d4] => { results := [.lit (.bool false)], args := [d1, d2, d3, d4] }
  | _ => none }
def FnExactMinorOfWrongFalsely : Prop := fnExactMinorOfRow.holds Try.pinned (OpenSpec.ofChange fnExactMinorOfWrong)

/- THE SECOND FORM. 'bulk': how many values and letters a reading holds, each counted each time it is reached (what is shared counts as often as it is met; a slice's spare places count too). A statement '..UptoSaid' is the law's where the arguments, and the package variables that the reading takes, are together of bulk at most 1048576: NARROWER than '..Said'. Prove '..Said' where nothing that the law and all that it calls make is longer than what came in: it says more and counts as full. Else prove '..UptoSaid'. A law counts once. -/
mutual
def uptoBulk {H : Type} : DataW H → Nat
  | .lit (.string bytes) => bytes.length + 1
  | .lit _ => 1
  | .nil => 1
  | .ptr d => uptoBulk d + 1
  | .slice elems spare => uptoBulkAll elems + uptoBulkAll spare + 1
  | .agg parts => uptoBulkAll parts + 1
  | .iface _ d => uptoBulk d + 1
  | .map entries => uptoBulkEntries entries + 1
  | .held _ => 1
def uptoBulkAll {H : Type} : List (DataW H) → Nat
  | [] => 0
  | d :: r => uptoBulk d + uptoBulkAll r
def uptoBulkEntries {H : Type} : List (Lit × DataW H) → Nat
  | [] => 0
  | x :: r => uptoBulkEntry x + uptoBulkEntries r
def uptoBulkEntry {H : Type} : Lit × DataW H → Nat
  | (.string bytes, d) => bytes.length + uptoBulk d + 1
  | (_, d) => uptoBulk d + 1
 end
def uptoSmall : (H : Type) → List (DataW H) → Bool := fun _ ds => decide (uptoBulkAll ds ≤ 1048576)
def OpenSpec.upto (s : _root_.Go.ChangeSpec) : _root_.Go.OpenSpec := { _root_.Go.OpenSpec.ofChange s with cond := some uptoSmall }

/-- 'laws.FnExactProductOf', WHERE WHAT IT READS IS OF BULK AT MOST 1048576: true; the input reads as it did. -/
def fnExactProductOfUptoRow : OpenClaim := { program := "ytccjheikjcpgmaa", sum := "c7272e6737f0cd369d9743c42020c75dcca321d6589563fce7da05721f18bba3", func := "loop.example/g01078/laws.FnExactProductOf", spec := "fnExactProductOf", apart := false, narrowed := true }
def FnExactProductOfUptoSaid : Prop := fnExactProductOfUptoRow.holds Try.pinned (OpenSpec.upto fnExactProductOfSpec)

/-- 'laws.FnExactDoCommute', WHERE WHAT IT READS IS OF BULK AT MOST 1048576: true; the input reads as it did. -/
def fnExactDoCommuteUptoRow : OpenClaim := { program := "ytccjheikjcpgmaa", sum := "c7272e6737f0cd369d9743c42020c75dcca321d6589563fce7da05721f18bba3", func := "loop.example/g01078/laws.FnExactDoCommute", spec := "fnExactDoCommute", apart := false, narrowed := true }
def FnExactDoCommuteUptoSaid : Prop := fnExactDoCommuteUptoRow.holds Try.pinned (OpenSpec.upto fnExactDoCommuteSpec)

/-- 'laws.FnExactComposeFunctions', WHERE WHAT IT READS IS OF BULK AT MOST 1048576: true; the input reads as it did. -/
def fnExactComposeFunctionsUptoRow : OpenClaim := { program := "ytccjheikjcpgmaa", sum := "c7272e6737f0cd369d9743c42020c75dcca321d6589563fce7da05721f18bba3", func := "loop.example/g01078/laws.FnExactComposeFunctions", spec := "fnExactComposeFunctions", apart := false, narrowed := true }
def FnExactComposeFunctionsUptoSaid : Prop := fnExactComposeFunctionsUptoRow.holds Try.pinned (OpenSpec.upto fnExactComposeFunctionsSpec)

/-- 'laws.FnExactMinorOf', WHERE WHAT IT READS IS OF BULK AT MOST 1048576: true; the input reads as it did. -/
def fnExactMinorOfUptoRow : OpenClaim := { program := "ytccjheikjcpgmaa", sum := "c7272e6737f0cd369d9743c42020c75dcca321d6589563fce7da05721f18bba3", func := "loop.example/g01078/laws.FnExactMinorOf", spec := "fnExactMinorOf", apart := false, narrowed := true }
def FnExactMinorOfUptoSaid : Prop := fnExactMinorOfUptoRow.holds Try.pinned (OpenSpec.upto fnExactMinorOfSpec)

end Rows
end Go.Proofs.Ytccjheikjcpgmaa
