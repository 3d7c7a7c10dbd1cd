/-
  No cell of these rows narrows 'for every input' (looked for: loops, veiled, ifaces, maps, wideKeys, modest, calm, conditions, laid).
  DERIVED. THE GIVEN ROWS OF THIS SEAT. 12 by the template 'for every input the law returns true; each argument reads behind the call as it read before'; 0 by the template 'total and deterministic' (their statements: YtnnbgfphinemfaaTotals.lean).
  GIVEN WITH THE SEED: the statements are not yours to turn. If you find one false, say at which input.
  Laid BY PROGRAM, IN A SANDBOX (cutbox-rows.mjs): the forced cells as the released guide's own fill.sh prints them over the translation 1fcae559aca3e724… (all of the seat's roots in one cut). By AI agents, Wed Nov 11 2026. No macro, syntax, notation, axiom, sorry.
-/
import Derived.Test.YtnnbgfphinemfaaChecked
import GoSem.Claim
import GoSem.ClaimJoined
import GoSem.ClaimMapViews
import Derived.JoinedTies
import Derived.KernelRfl
namespace Go.Proofs.Ytnnbgfphinemfaa
/- THE CELL 'sum', in the pinned program and in every row, IS THE sha256 OF THE DUMP (.gsa) THAT YtnnbgfphinemfaaProg.lean LOADS. Nothing in Lean hashes anything: it is a label: what it is worth is what the hold of that sum in a sandbox is worth. -/
noncomputable def Try.pinned : Pinned := { name := "ytnnbgfphinemfaa", sum := "1fcae559aca3e724bcedf9b7df6df90d4f16c1d1b40ce4b4ab0ba4829827950a", checked := Try.checked }
namespace Rows
def none {H : Type} : Left H := { results := [], args := [] }

/-- 'laws.FnExactHomFault': WHATEVER THE INPUT: true; the input reads as it did. -/
def fnExactHomFaultSpec : ChangeSpec := { name := "fnExactHomFault", fn := fun _ => fun
  | [d1, d2, d3] => { results := [.lit (.bool true)], args := [d1, d2, d3] }
  | _ => none }
def fnExactHomFaultRow : OpenClaim := { program := "ytnnbgfphinemfaa", sum := "1fcae559aca3e724bcedf9b7df6df90d4f16c1d1b40ce4b4ab0ba4829827950a", func := "loop.example/g01078/laws.FnExactHomFault", spec := "fnExactHomFault", apart := false }
def FnExactHomFaultSaid : Prop := fnExactHomFaultRow.holds Try.pinned (OpenSpec.ofChange fnExactHomFaultSpec)

/-- ITS FALSE NEIGHBOUR: 'it returns false'. Refute it at one input. -/
def fnExactHomFaultWrong : ChangeSpec := { name := "fnExactHomFault", fn := fun _ => fun
  | [d1, d2, d3] => { results := [.lit (.bool false)], args := [d1, d2, d3] }
  | _ => none }
def FnExactHomFaultWrongFalsely : Prop := fnExactHomFaultRow.holds Try.pinned (OpenSpec.ofChange fnExactHomFaultWrong)

/-- 'laws.FnExactComposeHoms': WHATEVER THE INPUT: true; the input reads as it did. -/
def fnExactComposeHomsSpec : ChangeSpec := { name := "fnExactComposeHoms", fn := fun _ => fun
  | [d1, d2, d3, d4, d5] => { results := [.lit (.bool true)], args := [d1, d2, d3, d4, d5] }
  | _ => none }
def fnExactComposeHomsRow : OpenClaim := { program := "ytnnbgfphinemfaa", sum := "1fcae559aca3e724bcedf9b7df6df90d4f16c1d1b40ce4b4ab0ba4829827950a", func := "loop.example/g01078/laws.FnExactComposeHoms", spec := "fnExactComposeHoms", apart := false }
def FnExactComposeHomsSaid : Prop := fnExactComposeHomsRow.holds Try.pinned (OpenSpec.ofChange fnExactComposeHomsSpec)

/-- ITS FALSE NEIGHBOUR: 'it returns false'. Refute it at one input. -/
def fnExactComposeHomsWrong : ChangeSpec := { name := "fnExactComposeHoms", fn := fun _ => fun
  | [d1, d2, d3, d4, d5] => { results := [.lit (.bool false)], args := [d1, d2, d3, d4, d5] }
  | _ => none }
def FnExactComposeHomsWrongFalsely : Prop := fnExactComposeHomsRow.holds Try.pinned (OpenSpec.ofChange fnExactComposeHomsWrong)

/-- 'laws.FnExactIsDerivation': WHATEVER THE INPUT: true; the input reads as it did. -/
def fnExactIsDerivationSpec : ChangeSpec := { name := "fnExactIsDerivation", fn := fun _ => fun
  | [d1, d2, d3] => { results := [.lit (.bool true)], args := [d1, d2, d3] }
  | _ => none }
def fnExactIsDerivationRow : OpenClaim := { program := "ytnnbgfphinemfaa", sum := "1fcae559aca3e724bcedf9b7df6df90d4f16c1d1b40ce4b4ab0ba4829827950a", func := "loop.example/g01078/laws.FnExactIsDerivation", spec := "fnExactIsDerivation", apart := false }
def FnExactIsDerivationSaid : Prop := fnExactIsDerivationRow.holds Try.pinned (OpenSpec.ofChange fnExactIsDerivationSpec)

/-- ITS FALSE NEIGHBOUR: 'it returns false'. Refute it at one input. -/
def fnExactIsDerivationWrong : ChangeSpec := { name := "fnExactIsDerivation", fn := fun _ => fun
  | [d1, d2, d3] => { results := [.lit (.bool false)], args := [d1, d2, d3] }
  | _ => none }
def FnExactIsDerivationWrongFalsely : Prop := fnExactIsDerivationRow.holds Try.pinned (OpenSpec.ofChange fnExactIsDerivationWrong)

/-- 'laws.FnExactKernelOf': WHATEVER THE INPUT: true; the input reads as it did. -/
def fnExactKernelOfSpec : ChangeSpec := { name := "fnExactKernelOf", fn := fun _ => fun
  | [d1, d2, d3] => { results := [.lit (.bool true)], args := [d1, d2, d3] }
  | _ => none }
def fnExactKernelOfRow : OpenClaim := { program := "ytnnbgfphinemfaa", sum := "1fcae559aca3e724bcedf9b7df6df90d4f16c1d1b40ce4b4ab0ba4829827950a", func := "loop.example/g01078/laws.FnExactKernelOf", spec := "fnExactKernelOf", apart := false }
def FnExactKernelOfSaid : Prop := fnExactKernelOfRow.holds Try.pinned (OpenSpec.ofChange fnExactKernelOfSpec)

/-- ITS FALSE NEIGHBOUR: 'it returns false'. Refute it at one input. -/
def fnExactKernelOfWrong : ChangeSpec := { name := "fnExactKernelOf", fn := fun _ => fun
  | [d1, d2, d3] => { results := [.lit (.bool false)], args := [d1, d2, d3] }
  | _ => none }
def FnExactKernelOfWrongFalsely : Prop := fnExactKernelOfRow.holds Try.pinned (OpenSpec.ofChange fnExactKernelOfWrong)

/-- 'laws.FnExactIsFactorPair': WHATEVER THE INPUT: true; the input reads as it did. -/
def fnExactIsFactorPairSpec : ChangeSpec := { name := "fnExactIsFactorPair", fn := fun _ => fun
  | [d1, d2, d3] => { results := [.lit (.bool true)], args := [d1, d2, d3] }
  | _ => none }
def fnExactIsFactorPairRow : OpenClaim := { program := "ytnnbgfphinemfaa", sum := "1fcae559aca3e724bcedf9b7df6df90d4f16c1d1b40ce4b4ab0ba4829827950a", func := "loop.example/g01078/laws.FnExactIsFactorPair", spec := "fnExactIsFactorPair", apart := false }
def FnExactIsFactorPairSaid : Prop := fnExactIsFactorPairRow.holds Try.pinned (OpenSpec.ofChange fnExactIsFactorPairSpec)

/-- ITS FALSE NEIGHBOUR: 'it returns false'. Refute it at one input. -/
def fnExactIsFactorPairWrong : ChangeSpec := { name := "fnExactIsFactorPair", fn := fun _ => fun
  | [d1, d2, d3] => { results := [.lit (.bool false)], args := [d1, d2, d3] }
  | _ => none }
def FnExactIsFactorPairWrongFalsely : Prop := fnExactIsFactorPairRow.holds Try.pinned (OpenSpec.ofChange fnExactIsFactorPairWrong)

/-- 'laws.FnExactNaturalMap': WHATEVER THE INPUT: true; the input reads as it did. -/
def fnExactNaturalMapSpec : ChangeSpec := { name := "fnExactNaturalMap", fn := fun _ => fun
  | [d1, d2] => { results := [.lit (.bool true)], args := [d1, d2] }
  | _ => none }
def fnExactNaturalMapRow : OpenClaim := { program := "ytnnbgfphinemfaa", sum := "1fcae559aca3e724bcedf9b7df6df90d4f16c1d1b40ce4b4ab0ba4829827950a", func := "loop.example/g01078/laws.FnExactNaturalMap", spec := "fnExactNaturalMap", apart := false }
def FnExactNaturalMapSaid : Prop := fnExactNaturalMapRow.holds Try.pinned (OpenSpec.ofChange fnExactNaturalMapSpec)

/-- ITS FALSE NEIGHBOUR: 'it returns false'. Refute it at one input. -/
def fnExactNaturalMapWrong : ChangeSpec := { name := "fnExactNaturalMap", fn := fun _ => fun
  | [d1, d2] => { results := [.lit (.bool false)], args := [d1, d2] }
  | _ => none }
def FnExactNaturalMapWrongFalsely : Prop := fnExactNaturalMapRow.holds Try.pinned (OpenSpec.ofChange fnExactNaturalMapWrong)

/-- 'laws.FnExactImageOf': WHATEVER THE INPUT: true; the input reads as it did. -/
def fnExactImageOfSpec : ChangeSpec := { name := "fnExactImageOf", fn := fun _ => fun
  | [d1, d2, d3] => { results := [.lit (.bool true)], args := [d1, d2, d3] }
  | _ => none }
def fnExactImageOfRow : OpenClaim := { program := "ytnnbgfphinemfaa", sum := "1fcae559aca3e724bcedf9b7df6df90d4f16c1d1b40ce4b4ab0ba4829827950a", func := "loop.example/g01078/laws.FnExactImageOf", spec := "fnExactImageOf", apart := false }
def FnExactImageOfSaid : Prop := fnExactImageOfRow.holds Try.pinned (OpenSpec.ofChange fnExactImageOfSpec)

/-- ITS FALSE NEIGHBOUR: 'it returns false'. Refute it at one input. -/
def fnExactImageOfWrong : ChangeSpec := { name := "fnExactImageOf", fn := fun _ => fun
  | [d1, d2, d3] => { results := [.lit (.bool false)], args := [d1, d2, d3] }
  | _ => none }
def FnExactImageOfWrongFalsely : Prop := fnExactImageOfRow.holds Try.pinned (OpenSpec.ofChange fnExactImageOfWrong)

/-- 'laws.FnExactDoesMake': WHATEVER THE INPUT: true; the input reads as it did. -/
def fnExactDoesMakeSpec : ChangeSpec := { name := "fnExactDoesMake", fn := fun _ => fun
  | [d1, d2, d3, d4, d5] => { results := [.lit (.bool true)], args := [d1, d2, d3, d4, d5] }
  | _ => none }
def fnExactDoesMakeRow : OpenClaim := { program := "ytnnbgfphinemfaa", sum := "1fcae559aca3e724bcedf9b7df6df90d4f16c1d1b40ce4b4ab0ba4829827950a", func := "loop.example/g01078/laws.FnExactDoesMake", spec := "fnExactDoesMake", apart := false }
def FnExactDoesMakeSaid : Prop := fnExactDoesMakeRow.holds Try.pinned (OpenSpec.ofChange fnExactDoesMakeSpec)

/-- ITS FALSE NEIGHBOUR: 'it returns false'. Refute it at one input. -/
def fnExactDoesMakeWrong : ChangeSpec := { name := "fnExactDoesMake", fn := fun _ => fun
  | [d1, d2, d3, d4, d5] => { results := [.lit (.bool false)], args := [d1, d2, d3, d4, d5] }
  | _ => none }
def FnExactDoesMakeWrongFalsely : Prop := fnExactDoesMakeRow.holds Try.pinned (OpenSpec.ofChange fnExactDoesMakeWrong)

/-- 'laws.FnExactCongruenceOfPairs': WHATEVER THE INPUT: true; the input reads as it did. -/
def fnExactCongruenceOfPairsSpec : ChangeSpec := { name := "fnExactCongruenceOfPairs", fn := fun _ => fun
  | [d1, d2] => { results := [.lit (.bool true)], args := [d1, d2] }
  | _ => none }
def fnExactCongruenceOfPairsRow : OpenClaim := { program := "ytnnbgfphinemfaa", sum := "1fcae559aca3e724bcedf9b7df6df90d4f16c1d1b40ce4b4ab0ba4829827950a", func := "loop.example/g01078/laws.FnExactCongruenceOfPairs", spec := "fnExactCongruenceOfPairs", apart := false }
def FnExactCongruenceOfPairsSaid : Prop := fnExactCongruenceOfPairsRow.holds Try.pinned (OpenSpec.ofChange fnExactCongruenceOfPairsSpec)

/-- ITS FALSE NEIGHBOUR: 'it returns false'. Refute it at one input. -/
def fnExactCongruenceOfPairsWrong : ChangeSpec := { name := "fnExactCongruenceOfPairs", fn := fun _ => fun
  | [d1, d2] => { results := [.lit (.bool false)], args := [d1, d2] }
  | _ => none }
def FnExactCongruenceOfPairsWrongFalsely : Prop := fnExactCongruenceOfPairsRow.holds Try.pinned (OpenSpec.ofChange fnExactCongruenceOfPairsWrong)

/-- 'laws.FnExactPushCongruence': WHATEVER THE INPUT: true; the input reads as it did. -/
def fnExactPushCongruenceSpec : ChangeSpec := { name := "fnExactPushCongruence", fn := fun _ => fun
  | [d1, d2, d3] => { results := [.lit (.bool true)], args := [d1, d2, d3] }
  | _ => none }
def fnExactPushCongruenceRow : OpenClaim := { program := "ytnnbgfphinemfaa", sum := "1fcae559aca3e724bcedf9b7df6df90d4f16c1d1b40ce4b4ab0ba4829827950a", func := "loop.example/g01078/laws.FnExactPushCongruence", spec := "fnExactPushCongruence", apart := false }
def FnExactPushCongruenceSaid : Prop := fnExactPushCongruenceRow.holds Try.pinned (OpenSpec.ofChange fnExactPushCongruenceSpec)

/-- ITS FALSE NEIGHBOUR: 'it returns false'. Refute it at one input. -/
def fnExactPushCongruenceWrong : ChangeSpec := { name := "fnExactPushCongruence", fn := fun _ => fun
  | [d1, d2, d3] => { results := [.lit (.bool false)], args := [d1, d2, d3] }
  | _ => none }
def FnExactPushCongruenceWrongFalsely : Prop := fnExactPushCongruenceRow.holds Try.pinned (OpenSpec.ofChange fnExactPushCongruenceWrong)

/-- 'laws.FnExactCoarserMap': WHATEVER THE INPUT: true; the input reads as it did. -/
def fnExactCoarserMapSpec : ChangeSpec := { name := "fnExactCoarserMap", fn := fun _ => fun
  | [d1, d2, d3] => { results := [.lit (.bool true)], args := [d1, d2, d3] }
  | _ => none }
def fnExactCoarserMapRow : OpenClaim := { program := "ytnnbgfphinemfaa", sum := "1fcae559aca3e724bcedf9b7df6df90d4f16c1d1b40ce4b4ab0ba4829827950a", func := "loop.example/g01078/laws.FnExactCoarserMap", spec := "fnExactCoarserMap", apart := false }
def FnExactCoarserMapSaid : Prop := fnExactCoarserMapRow.holds Try.pinned (OpenSpec.ofChange fnExactCoarserMapSpec)

/-- ITS FALSE NEIGHBOUR: 'it returns false'. Refute it at one input. -/
def fnExactCoarserMapWrong : ChangeSpec := { name := "fnExactCoarserMap", fn := fun _ => fun
  | [d1, d2, d3] => { results := [.lit (.bool false)], args := [d1, d2, d3] }
  | _ => none }
def FnExactCoarserMapWrongFalsely : Prop := fnExactCoarserMapRow.holds Try.pinned (OpenSpec.ofChange fnExactCoarserMapWrong)

/-- 'laws.FnExactLiftCongruence': WHATEVER THE INPUT: true; the input reads as it did. -/
def fnExactLiftCongruenceSpec : ChangeSpec := { name := "fnExactLiftCongruence", fn := fun _ => fun
  | [d1, d2, d3] => { results := [.lit (.bool true)], args := [d1, d2, d3] }
  | _ => none }
def fnExactLiftCongruenceRow : OpenClaim := { program := "ytnnbgfphinemfaa", sum := "1fcae559aca3e724bcedf9b7df6df90d4f16c1d1b40ce4b4ab0ba4829827950a", func := "loop.example/g01078/laws.FnExactLiftCongruence", spec := "fnExactLiftCongruence", apart := false }
def FnExactLiftCongruenceSaid : Prop := fnExactLiftCongruenceRow.holds Try.pinned (OpenSpec.ofChange fnExactLiftCongruenceSpec)

/-- ITS FALSE NEIGHBOUR: 'it returns false'. Refute it at one input. -/
def fnExactLiftCongruenceWrong : ChangeSpec := { name := "fnExactLiftCongruence", fn := fun _ => fun
  | [d1, d2, d3] => { results := [.lit (.bool false)], args := [d1, d2, d3] }
  | _ => none }
def FnExactLiftCongruenceWrongFalsely : Prop := fnExactLiftCongruenceRow.holds Try.pinned (OpenSpec.ofChange fnExactLiftCongruenceWrong)

/- THE SECOND FORM. 'bulk': how many values and letters a reading holds, each counted each time it is reached (what is shared counts as often as it is met; a slice's spare places count too). A statement '..UptoSaid' is the law's where the arguments, and the package variables that the reading takes, are together of bulk at most 1048576: NARROWER than '..Said'. Prove '..Said' where nothing that the law and all that it calls make is longer than what came in: it says more and counts as full. Else prove '..UptoSaid'. A law counts once. -/
mutual
def uptoBulk {H : Type} : DataW H → Nat
  | .lit (.string bytes) => bytes.length + 1
  | .lit _ => 1
  | .nil => 1
  | .ptr d => uptoBulk d + 1
  | .slice elems spare => uptoBulkAll elems + uptoBulkAll spare + 1
  | .agg parts => uptoBulkAll parts + 1
  | .iface _ d => uptoBulk d + 1
  | .map entries => uptoBulkEntries entries + 1
  | .held _ => 1
def uptoBulkAll {H : Type} : List (DataW H) → Nat
  | [] => 0
  | d :: r => uptoBulk d + uptoBulkAll r
def uptoBulkEntries {H : Type} : List (Lit × DataW H) → Nat
  | [] => 0
  | x :: r => uptoBulkEntry x + uptoBulkEntries r
def uptoBulkEntry {H : Type} : Lit × DataW H → Nat
  | (.string bytes, d) => bytes.length + uptoBulk d + 1
  | (_, d) => uptoBulk d + 1
 end
def uptoSmall : (H : Type) → List (DataW H) → Bool := fun _ ds => decide (uptoBulkAll ds ≤ 1048576)
def OpenSpec.upto (s : _root_.Go.ChangeSpec) : _root_.Go.OpenSpec := { _root_.Go.OpenSpec.ofChange s with cond := some uptoSmall }

/-- 'laws.FnExactHomFault', WHERE WHAT IT READS IS OF BULK AT MOST 1048576: true; the input reads as it did. -/
def fnExactHomFaultUptoRow : OpenClaim := { program := "ytnnbgfphinemfaa", sum := "1fcae559aca3e724bcedf9b7df6df90d4f16c1d1b40ce4b4ab0ba4829827950a", func := "loop.example/g01078/laws.FnExactHomFault", spec := "fnExactHomFault", apart := false, narrowed := true }
def FnExactHomFaultUptoSaid : Prop := fnExactHomFaultUptoRow.holds Try.pinned (OpenSpec.upto fnExactHomFaultSpec)

/-- 'laws.FnExactComposeHoms', WHERE WHAT IT READS IS OF BULK AT MOST 1048576: true; the input reads as it did. -/
def fnExactComposeHomsUptoRow : OpenClaim := { program := "ytnnbgfphinemfaa", sum := "1fcae559aca3e724bcedf9b7df6df90d4f16c1d1b40ce4b4ab0ba4829827950a", func := "loop.example/g01078/laws.FnExactComposeHoms", spec := "fnExactComposeHoms", apart := false, narrowed := true }
def FnExactComposeHomsUptoSaid : Prop := fnExactComposeHomsUptoRow.holds Try.pinned (OpenSpec.upto fnExactComposeHomsSpec)

/-- 'laws.FnExactIsDerivation', WHERE WHAT IT READS IS OF BULK AT MOST 1048576: true; the input reads as it did. -/
def fnExactIsDerivationUptoRow : OpenClaim := { program := "ytnnbgfphinemfaa", sum := "1fcae559aca3e724bcedf9b7df6df90d4f16c1d1b40ce4b4ab0ba4829827950a", func := "loop.example/g01078/laws.FnExactIsDerivation", spec := "fnExactIsDerivation", apart := false, narrowed := true }
def FnExactIsDerivationUptoSaid : Prop := fnExactIsDerivationUptoRow.holds Try.pinned (OpenSpec.upto fnExactIsDerivationSpec)

/-- 'laws.FnExactKernelOf', WHERE WHAT IT READS IS OF BULK AT MOST 1048576: true; the input reads as it did. -/
def fnExactKernelOfUptoRow : OpenClaim := { program := "ytnnbgfphinemfaa", sum := "1fcae559aca3e724bcedf9b7df6df90d4f16c1d1b40ce4b4ab0ba4829827950a", func := "loop.example/g01078/laws.FnExactKernelOf", spec := "fnExactKernelOf", apart := false, narrowed := true }
def FnExactKernelOfUptoSaid : Prop := fnExactKernelOfUptoRow.holds Try.pinned (OpenSpec.upto fnExactKernelOfSpec)

/-- 'laws.FnExactIsFactorPair', WHERE WHAT IT READS IS OF BULK AT MOST 1048576: true; the input reads as it did. -/
def fnExactIsFactorPairUptoRow : OpenClaim := { program := "ytnnbgfphinemfaa", sum := "1fcae559aca3e724bcedf9b7df6df90d4f16c1d1b40ce4b4ab0ba4829827950a", func := "loop.example/g01078/laws.FnExactIsFactorPair", spec := "fnExactIsFactorPair", apart := false, narrowed := true }
def FnExactIsFactorPairUptoSaid : Prop := fnExactIsFactorPairUptoRow.holds Try.pinned (OpenSpec.upto fnExactIsFactorPairSpec)

/-- 'laws.FnExactNaturalMap', WHERE WHAT IT READS IS OF BULK AT MOST 1048576: true; the input reads as it did. -/
def fnExactNaturalMapUptoRow : OpenClaim := { program := "ytnnbgfphinemfaa", sum := "1fcae559aca3e724bcedf9b7df6df90d4f16c1d1b40ce4b4ab0ba4829827950a", func := "loop.example/g01078/laws.FnExactNaturalMap", spec := "fnExactNaturalMap", apart := false, narrowed := true }
def FnExactNaturalMapUptoSaid : Prop := fnExactNaturalMapUptoRow.holds Try.pinned (OpenSpec.upto fnExactNaturalMapSpec)

/-- 'laws.FnExactImageOf', WHERE WHAT IT READS IS OF BULK AT MOST 1048576: true; the input reads as it did. -/
def fnExactImageOfUptoRow : OpenClaim := { program := "ytnnbgfphinemfaa", sum := "1fcae559aca3e724bcedf9b7df6df90d4f16c1d1b40ce4b4ab0ba4829827950a", func := "loop.example/g01078/laws.FnExactImageOf", spec := "fnExactImageOf", apart := false, narrowed := true }
def FnExactImageOfUptoSaid : Prop := fnExactImageOfUptoRow.holds Try.pinned (OpenSpec.upto fnExactImageOfSpec)

/-- 'laws.FnExactDoesMake', WHERE WHAT IT READS IS OF BULK AT MOST 1048576: true; the input reads as it did. -/
def fnExactDoesMakeUptoRow : OpenClaim := { program := "ytnnbgfphinemfaa", sum := "1fcae559aca3e724bcedf9b7df6df90d4f16c1d1b40ce4b4ab0ba4829827950a", func := "loop.example/g01078/laws.FnExactDoesMake", spec := "fnExactDoesMake", apart := false, narrowed := true }
def FnExactDoesMakeUptoSaid : Prop := fnExactDoesMakeUptoRow.holds Try.pinned (OpenSpec.upto fnExactDoesMakeSpec)

/-- 'laws.FnExactCongruenceOfPairs', WHERE WHAT IT READS IS OF BULK AT MOST 1048576: true; the input reads as it did. -/
def fnExactCongruenceOfPairsUptoRow : OpenClaim := { program := "ytnnbgfphinemfaa", sum := "1fcae559aca3e724bcedf9b7df6df90d4f16c1d1b40ce4b4ab0ba4829827950a", func := "loop.example/g01078/laws.FnExactCongruenceOfPairs", spec := "fnExactCongruenceOfPairs", apart := false, narrowed := true }
def FnExactCongruenceOfPairsUptoSaid : Prop := fnExactCongruenceOfPairsUptoRow.holds Try.pinned (OpenSpec.upto fnExactCongruenceOfPairsSpec)

/-- 'laws.FnExactPushCongruence', WHERE WHAT IT READS IS OF BULK AT MOST 1048576: true; the input reads as it did. -/
def fnExactPushCongruenceUptoRow : OpenClaim := { program := "ytnnbgfphinemfaa", sum := "1fcae559aca3e724bcedf9b7df6df90d4f16c1d1b40ce4b4ab0ba4829827950a", func := "loop.example/g01078/laws.FnExactPushCongruence", spec := "fnExactPushCongruence", apart := false, narrowed := true }
def FnExactPushCongruenceUptoSaid : Prop := fnExactPushCongruenceUptoRow.holds Try.pinned (OpenSpec.upto fnExactPushCongruenceSpec)

/-- 'laws.FnExactCoarserMap', WHERE WHAT IT READS IS OF BULK AT MOST 1048576: true; the input reads as it did. -/
def fnExactCoarserMapUptoRow : OpenClaim := { program := "ytnnbgfphinemfaa", sum := "1fcae559aca3e724bcedf9b7df6df90d4f16c1d1b40ce4b4ab0ba4829827950a", func := "loop.example/g01078/laws.FnExactCoarserMap", spec := "fnExactCoarserMap", apart := false, narrowed := true }
def FnExactCoarserMapUptoSaid : Prop := fnExactCoarserMapUptoRow.holds Try.pinned (OpenSpec.upto fnExactCoarserMapSpec)

/-- 'laws.FnExactLiftCongruence', WHERE WHAT IT READS IS OF BULK AT MOST 1048576: true; the input reads as it did. -/
def fnExactLiftCongruenceUptoRow : OpenClaim := { program := "ytnnbgfphinemfaa", sum := "1fcae559aca3e724bcedf9b7df6df90d4f16c1d1b40ce4b4ab0ba4829827950a", func := "loop.example/g01078/laws.FnExactLiftCongruence", spec := "fnExactLiftCongruence", apart := false, narrowed := true }
def FnExactLiftCongruenceUptoSaid : Prop := fnExactLiftCongruenceUptoRow.holds Try.pinned (OpenSpec.upto fnExactLiftCongruenceSpec)

end Rows
end Go.Proofs.Ytnnbgfphinemfaa
