/-
  No cell of these rows narrows 'for every input' (looked for: loops, veiled, ifaces, maps, wideKeys, modest, calm, conditions, laid).
  DERIVED. THE GIVEN ROWS OF THIS SEAT. 12 by the template 'for every input the law returns true; each argument reads behind the call as it read before'; 0 by the template 'total and deterministic' (their statements: YtijnfpfijgmopaaTotals.lean).
  GIVEN WITH THE SEED: the statements are not yours to turn. If you find one false, say at which input.
  Laid BY PROGRAM, IN A SANDBOX (cutbox-rows.mjs): the forced cells as the released guide's own fill.sh prints them over the translation 1c8d1073bd288d40… (all of the seat's roots in one cut). By AI agents, Wed Nov 11 2026. No macro, syntax, notation, axiom, sorry.
-/
import Derived.Test.YtijnfpfijgmopaaChecked
import GoSem.Claim
import GoSem.ClaimJoined
import GoSem.ClaimMapViews
import Derived.JoinedTies
import Derived.KernelRfl
namespace Go.Proofs.Ytijnfpfijgmopaa
/- THE CELL 'sum', in the pinned program and in every row, IS THE sha256 OF THE DUMP (.gsa) THAT YtijnfpfijgmopaaProg.lean LOADS. Nothing in Lean hashes anything: it is a label: what it is worth is what the hold of that sum in a sandbox is worth. -/
noncomputable def Try.pinned : Pinned := { name := "ytijnfpfijgmopaa", sum := "1c8d1073bd288d408a4eaf102e9a5fa21163ccb01f739c50fa1473f18d7efb8f", checked := Try.checked }
namespace Rows
def none {H : Type} : Left H := { results := [], args := [] }

/-- 'laws.FnExactMostTuples': WHATEVER THE INPUT: true; the input reads as it did. -/
def fnExactMostTuplesSpec : ChangeSpec := { name := "fnExactMostTuples", fn := fun _ => fun
  | [d] => { results := [.lit (.bool true)], args := [d] }
  | _ => none }
def fnExactMostTuplesRow : OpenClaim := { program := "ytijnfpfijgmopaa", sum := "1c8d1073bd288d408a4eaf102e9a5fa21163ccb01f739c50fa1473f18d7efb8f", func := "loop.example/g01078/laws.FnExactMostTuples", spec := "fnExactMostTuples", apart := false }
def FnExactMostTuplesSaid : Prop := fnExactMostTuplesRow.holds Try.pinned (OpenSpec.ofChange fnExactMostTuplesSpec)

/-- ITS FALSE NEIGHBOUR: 'it returns false'. Refute it at one input. -/
def fnExactMostTuplesWrong : ChangeSpec := { name := "fnExactMostTuples", fn := fun _ => fun
  | [d] => { results := [.lit (.bool false)], args := [d] }
  | _ => none }
def FnExactMostTuplesWrongFalsely : Prop := fnExactMostTuplesRow.holds Try.pinned (OpenSpec.ofChange fnExactMostTuplesWrong)

/-- 'laws.FnExactDiagonal': WHATEVER THE INPUT: true; the input reads as it did. -/
def fnExactDiagonalSpec : ChangeSpec := { name := "fnExactDiagonal", fn := fun _ => fun
  | [d1, d2] => { results := [.lit (.bool true)], args := [d1, d2] }
  | _ => none }
def fnExactDiagonalRow : OpenClaim := { program := "ytijnfpfijgmopaa", sum := "1c8d1073bd288d408a4eaf102e9a5fa21163ccb01f739c50fa1473f18d7efb8f", func := "loop.example/g01078/laws.FnExactDiagonal", spec := "fnExactDiagonal", apart := false }
def FnExactDiagonalSaid : Prop := fnExactDiagonalRow.holds Try.pinned (OpenSpec.ofChange fnExactDiagonalSpec)

/-- ITS FALSE NEIGHBOUR: 'it returns false'. Refute it at one input. -/
def fnExactDiagonalWrong : ChangeSpec := { name := "fnExactDiagonal", fn := fun _ => fun
  | [d1, d2] => { results := [.lit (.bool false)], args := [d1, d2] }
  | _ => none }
def FnExactDiagonalWrongFalsely : Prop := fnExactDiagonalRow.holds Try.pinned (OpenSpec.ofChange fnExactDiagonalWrong)

/-- 'laws.FnExactApplyTo': WHATEVER THE INPUT: true; the input reads as it did. -/
def fnExactApplyToSpec : ChangeSpec := { name := "fnExactApplyTo", fn := fun _ => fun
  | [d1, d2, d3] => { results := [.lit (.bool true)], args := [d1, d2, d3] }
  | _ => none }
def fnExactApplyToRow : OpenClaim := { program := "ytijnfpfijgmopaa", sum := "1c8d1073bd288d408a4eaf102e9a5fa21163ccb01f739c50fa1473f18d7efb8f", func := "loop.example/g01078/laws.FnExactApplyTo", spec := "fnExactApplyTo", apart := false }
def FnExactApplyToSaid : Prop := fnExactApplyToRow.holds Try.pinned (OpenSpec.ofChange fnExactApplyToSpec)

/-- ITS FALSE NEIGHBOUR: 'it returns false'. Refute it at one input. -/
def fnExactApplyToWrong : ChangeSpec := { name := "fnExactApplyTo", fn := fun _ => fun
  | [d1, d2, d3] => { results := [.lit (.bool false)], args := [d1, d2, d3] }
  | _ => none }
def FnExactApplyToWrongFalsely : Prop := fnExactApplyToRow.holds Try.pinned (OpenSpec.ofChange fnExactApplyToWrong)

/-- 'laws.FnPartitions': WHATEVER THE INPUT: true; the input reads as it did. -/
def fnPartitionsSpec : ChangeSpec := { name := "fnPartitions", fn := fun _ => fun
  | [d] => { results := [.lit (.bool true)], args := [d] }
  | _ => none }
def fnPartitionsRow : OpenClaim := { program := "ytijnfpfijgmopaa", sum := "1c8d1073bd288d408a4eaf102e9a5fa21163ccb01f739c50fa1473f18d7efb8f", func := "loop.example/g01078/laws.FnPartitions", spec := "fnPartitions", apart := false }
def FnPartitionsSaid : Prop := fnPartitionsRow.holds Try.pinned (OpenSpec.ofChange fnPartitionsSpec)

/-- ITS FALSE NEIGHBOUR: 'it returns false'. Refute it at one input. -/
def fnPartitionsWrong : ChangeSpec := { name := "fnPartitions", fn := fun _ => fun
  | [d] => { results := [.lit (.bool false)], args := [d] }
  | _ => none }
def FnPartitionsWrongFalsely : Prop := fnPartitionsRow.holds Try.pinned (OpenSpec.ofChange fnPartitionsWrong)

/-- 'laws.FnExactFactorOfProduct': WHATEVER THE INPUT: true; the input reads as it did. -/
def fnExactFactorOfProductSpec : ChangeSpec := { name := "fnExactFactorOfProduct", fn := fun _ => fun
  | [d1, d2, d3] => { results := [.lit (.bool true)], args := [d1, d2, d3] }
  | _ => none }
def fnExactFactorOfProductRow : OpenClaim := { program := "ytijnfpfijgmopaa", sum := "1c8d1073bd288d408a4eaf102e9a5fa21163ccb01f739c50fa1473f18d7efb8f", func := "loop.example/g01078/laws.FnExactFactorOfProduct", spec := "fnExactFactorOfProduct", apart := false }
def FnExactFactorOfProductSaid : Prop := fnExactFactorOfProductRow.holds Try.pinned (OpenSpec.ofChange fnExactFactorOfProductSpec)

/-- ITS FALSE NEIGHBOUR: 'it returns false'. Refute it at one input. -/
def fnExactFactorOfProductWrong : ChangeSpec := { name := "fnExactFactorOfProduct", fn := fun _ => fun
  | [d1, d2, d3] => { results := [.lit (.bool false)], args := [d1, d2, d3] }
  | _ => none }
def FnExactFactorOfProductWrongFalsely : Prop := fnExactFactorOfProductRow.holds Try.pinned (OpenSpec.ofChange fnExactFactorOfProductWrong)

/-- 'laws.FnExactPowerOf': WHATEVER THE INPUT: true; the input reads as it did. -/
def fnExactPowerOfSpec : ChangeSpec := { name := "fnExactPowerOf", fn := fun _ => fun
  | [d1, d2] => { results := [.lit (.bool true)], args := [d1, d2] }
  | _ => none }
def fnExactPowerOfRow : OpenClaim := { program := "ytijnfpfijgmopaa", sum := "1c8d1073bd288d408a4eaf102e9a5fa21163ccb01f739c50fa1473f18d7efb8f", func := "loop.example/g01078/laws.FnExactPowerOf", spec := "fnExactPowerOf", apart := false }
def FnExactPowerOfSaid : Prop := fnExactPowerOfRow.holds Try.pinned (OpenSpec.ofChange fnExactPowerOfSpec)

/-- ITS FALSE NEIGHBOUR: 'it returns false'. Refute it at one input. -/
def fnExactPowerOfWrong : ChangeSpec := { name := "fnExactPowerOf", fn := fun _ => fun
  | [d1, d2] => { results := [.lit (.bool false)], args := [d1, d2] }
  | _ => none }
def FnExactPowerOfWrongFalsely : Prop := fnExactPowerOfRow.holds Try.pinned (OpenSpec.ofChange fnExactPowerOfWrong)

/-- 'laws.FnExactIsHom': WHATEVER THE INPUT: true; the input reads as it did. -/
def fnExactIsHomSpec : ChangeSpec := { name := "fnExactIsHom", fn := fun _ => fun
  | [d1, d2, d3] => { results := [.lit (.bool true)], args := [d1, d2, d3] }
  | _ => none }
def fnExactIsHomRow : OpenClaim := { program := "ytijnfpfijgmopaa", sum := "1c8d1073bd288d408a4eaf102e9a5fa21163ccb01f739c50fa1473f18d7efb8f", func := "loop.example/g01078/laws.FnExactIsHom", spec := "fnExactIsHom", apart := false }
def FnExactIsHomSaid : Prop := fnExactIsHomRow.holds Try.pinned (OpenSpec.ofChange fnExactIsHomSpec)

/-- ITS FALSE NEIGHBOUR: 'it returns false'. Refute it at one input. -/
def fnExactIsHomWrong : ChangeSpec := { name := "fnExactIsHom", fn := fun _ => fun
  | [d1, d2, d3] => { results := [.lit (.bool false)], args := [d1, d2, d3] }
  | _ => none }
def FnExactIsHomWrongFalsely : Prop := fnExactIsHomRow.holds Try.pinned (OpenSpec.ofChange fnExactIsHomWrong)

/-- 'laws.FnExactIsCongruence': WHATEVER THE INPUT: true; the input reads as it did. -/
def fnExactIsCongruenceSpec : ChangeSpec := { name := "fnExactIsCongruence", fn := fun _ => fun
  | [d1, d2] => { results := [.lit (.bool true)], args := [d1, d2] }
  | _ => none }
def fnExactIsCongruenceRow : OpenClaim := { program := "ytijnfpfijgmopaa", sum := "1c8d1073bd288d408a4eaf102e9a5fa21163ccb01f739c50fa1473f18d7efb8f", func := "loop.example/g01078/laws.FnExactIsCongruence", spec := "fnExactIsCongruence", apart := false }
def FnExactIsCongruenceSaid : Prop := fnExactIsCongruenceRow.holds Try.pinned (OpenSpec.ofChange fnExactIsCongruenceSpec)

/-- ITS FALSE NEIGHBOUR: 'it returns false'. Refute it at one input. -/
def fnExactIsCongruenceWrong : ChangeSpec := { name := "fnExactIsCongruence", fn := fun _ => fun
  | [d1, d2] => { results := [.lit (.bool false)], args := [d1, d2] }
  | _ => none }
def FnExactIsCongruenceWrongFalsely : Prop := fnExactIsCongruenceRow.holds Try.pinned (OpenSpec.ofChange fnExactIsCongruenceWrong)

/-- 'laws.FnExactIsClosedList': WHATEVER THE INPUT: true; the input reads as it did. -/
def fnExactIsClosedListSpec : ChangeSpec := { name := "fnExactIsClosedList", fn := fun _ => fun
  | [d1, d2, d3] => { results := [.lit (.bool true)], args := [d1, d2, d3] }
  | _ => none }
def fnExactIsClosedListRow : OpenClaim := { program := "ytijnfpfijgmopaa", sum := "1c8d1073bd288d408a4eaf102e9a5fa21163ccb01f739c50fa1473f18d7efb8f", func := "loop.example/g01078/laws.FnExactIsClosedList", spec := "fnExactIsClosedList", apart := false }
def FnExactIsClosedListSaid : Prop := fnExactIsClosedListRow.holds Try.pinned (OpenSpec.ofChange fnExactIsClosedListSpec)

/-- ITS FALSE NEIGHBOUR: 'it returns false'. Refute it at one input. -/
def fnExactIsClosedListWrong : ChangeSpec := { name := "fnExactIsClosedList", fn := fun _ => fun
  | [d1, d2, d3] => { results := [.lit (.bool false)], args := [d1, d2, d3] }
  | _ => none }
def FnExactIsClosedListWrongFalsely : Prop := fnExactIsClosedListRow.holds Try.pinned (OpenSpec.ofChange fnExactIsClosedListWrong)

/-- 'laws.FnExactCongruenceOfPair': WHATEVER THE INPUT: true; the input reads as it did. -/
def fnExactCongruenceOfPairSpec : ChangeSpec := { name := "fnExactCongruenceOfPair", fn := fun _ => fun
  | [d1, d2, d3] => { results := [.lit (.bool true)], args := [d1, d2, d3] }
  | _ => none }
def fnExactCongruenceOfPairRow : OpenClaim := { program := "ytijnfpfijgmopaa", sum := "1c8d1073bd288d408a4eaf102e9a5fa21163ccb01f739c50fa1473f18d7efb8f", func := "loop.example/g01078/laws.FnExactCongruenceOfPair", spec := "fnExactCongruenceOfPair", apart := false }
def FnExactCongruenceOfPairSaid : Prop := fnExactCongruenceOfPairRow.holds Try.pinned (OpenSpec.ofChange fnExactCongruenceOfPairSpec)

/-- ITS FALSE NEIGHBOUR: 'it returns false'. Refute it at one input. -/
def fnExactCongruenceOfPairWrong : ChangeSpec := { name := "fnExactCongruenceOfPair", fn := fun _ => fun
  | [d1, d2, d3] => { results := [.lit (.bool false)], args := [d1, d2, d3] }
  | _ => none }
def FnExactCongruenceOfPairWrongFalsely : Prop := fnExactCongruenceOfPairRow.holds Try.pinned (OpenSpec.ofChange fnExactCongruenceOfPairWrong)

/-- 'laws.FnExactTranslatedPairs': WHATEVER THE INPUT: true; the input reads as it did. -/
def fnExactTranslatedPairsSpec : ChangeSpec := { name := "fnExactTranslatedPairs", fn := fun _ => fun
  | [d1, d2, d3] => { results := [.lit (.bool true)], args := [d1, d2, d3] }
  | _ => none }
def fnExactTranslatedPairsRow : OpenClaim := { program := "ytijnfpfijgmopaa", sum := "1c8d1073bd288d408a4eaf102e9a5fa21163ccb01f739c50fa1473f18d7efb8f", func := "loop.example/g01078/laws.FnExactTranslatedPairs", spec := "fnExactTranslatedPairs", unfollowed := true, recurses := true, apart := false }
def FnExactTranslatedPairsSaid : Prop := fnExactTranslatedPairsRow.holds Try.pinned (OpenSpec.ofChange fnExactTranslatedPairsSpec)

/-- ITS FALSE NEIGHBOUR: 'it returns false'. Refute it at one input. -/
def fnExactTranslatedPairsWrong : ChangeSpec := { name := "fnExactTranslatedPairs", fn := fun _ => fun
  | [d1, d2, d3] => { results := [.lit (.bool false)], args := [d1, d2, d3] }
  | _ => none }
def FnExactTranslatedPairsWrongFalsely : Prop := fnExactTranslatedPairsRow.holds Try.pinned (OpenSpec.ofChange fnExactTranslatedPairsWrong)

/-- 'laws.FnExactProductOf': WHATEVER THE INPUT: true; the input reads as it did. -/
def fnExactProductOfSpec : ChangeSpec := { name := "fnExactProductOf", fn := fun _ => fun
  | [d1, d2] => { results := [.lit (.bool true)], args := [d1, d2] }
  | _ => none }
def fnExactProductOfRow : OpenClaim := { program := "ytijnfpfijgmopaa", sum := "1c8d1073bd288d408a4eaf102e9a5fa21163ccb01f739c50fa1473f18d7efb8f", func := "loop.example/g01078/laws.FnExactProductOf", spec := "fnExactProductOf", apart := false }
def FnExactProductOfSaid : Prop := fnExactProductOfRow.holds Try.pinned (OpenSpec.ofChange fnExactProductOfSpec)

/-- ITS FALSE NEIGHBOUR: 'it returns false'. Refute it at one input. -/
def fnExactProductOfWrong : ChangeSpec := { name := "fnExactProductOf", fn := fun _ => fun
  | [d1, d2] => { results := [.lit (.bool false)], args := [d1, d2] }
  | _ => none }
def FnExactProductOfWrongFalsely : Prop := fnExactProductOfRow.holds Try.pinned (OpenSpec.ofChange fnExactProductOfWrong)

/- THE SECOND FORM. 'bulk': how many values and letters a reading holds, each counted each time it is reached (what is shared counts as often as it is met; a slice's spare places count too). A statement '..UptoSaid' is the law's where the arguments, and the package variables that the reading takes, are together of bulk at most 1048576: NARROWER than '..Said'. Prove '..Said' where nothing that the law and all that it calls make is longer than what came in: it says more and counts as full. Else prove '..UptoSaid'. A law counts once. -/
mutual
def uptoBulk {H : Type} : DataW H → Nat
  | .lit (.string bytes) => bytes.length + 1
  | .lit _ => 1
  | .nil => 1
  | .ptr d => uptoBulk d + 1
  | .slice elems spare => uptoBulkAll elems + uptoBulkAll spare + 1
  | .agg parts => uptoBulkAll parts + 1
  | .iface _ d => uptoBulk d + 1
  | .map entries => uptoBulkEntries entries + 1
  | .held _ => 1
def uptoBulkAll {H : Type} : List (DataW H) → Nat
  | [] => 0
  | d :: r => uptoBulk d + uptoBulkAll r
def uptoBulkEntries {H : Type} : List (Lit × DataW H) → Nat
  | [] => 0
  | x :: r => uptoBulkEntry x + uptoBulkEntries r
def uptoBulkEntry {H : Type} : Lit × DataW H → Nat
  | (.string bytes, d) => bytes.length + uptoBulk d + 1
  | (_, d) => uptoBulk d + 1
 end
def uptoSmall : (H : Type) → List (DataW H) → Bool := fun _ ds => decide (uptoBulkAll ds ≤ 1048576)
def OpenSpec.upto (s : _root_.Go.ChangeSpec) : _root_.Go.OpenSpec := { _root_.Go.OpenSpec.ofChange s with cond := some uptoSmall }

/-- 'laws.FnExactMostTuples', WHERE WHAT IT READS IS OF BULK AT MOST 1048576: true; the input reads as it did. -/
def fnExactMostTuplesUptoRow : OpenClaim := { program := "ytijnfpfijgmopaa", sum := "1c8d1073bd288d408a4eaf102e9a5fa21163ccb01f739c50fa1473f18d7efb8f", func := "loop.example/g01078/laws.FnExactMostTuples", spec := "fnExactMostTuples", apart := false, narrowed := true }
def FnExactMostTuplesUptoSaid : Prop := fnExactMostTuplesUptoRow.holds Try.pinned (OpenSpec.upto fnExactMostTuplesSpec)

/-- 'laws.FnExactDiagonal', WHERE WHAT IT READS IS OF BULK AT MOST 1048576: true; the input reads as it did. -/
def fnExactDiagonalUptoRow : OpenClaim := { program := "ytijnfpfijgmopaa", sum := "1c8d1073bd288d408a4eaf102e9a5fa21163ccb01f739c50fa1473f18d7efb8f", func := "loop.example/g01078/laws.FnExactDiagonal", spec := "fnExactDiagonal", apart := false, narrowed := true }
def FnExactDiagonalUptoSaid : Prop := fnExactDiagonalUptoRow.holds Try.pinned (OpenSpec.upto fnExactDiagonalSpec)

/-- 'laws.FnExactApplyTo', WHERE WHAT IT READS IS OF BULK AT MOST 1048576: true; the input reads as it did. -/
def fnExactApplyToUptoRow : OpenClaim := { program := "ytijnfpfijgmopaa", sum := "1c8d1073bd288d408a4eaf102e9a5fa21163ccb01f739c50fa1473f18d7efb8f", func := "loop.example/g01078/laws.FnExactApplyTo", spec := "fnExactApplyTo", apart := false, narrowed := true }
def FnExactApplyToUptoSaid : Prop := fnExactApplyToUptoRow.holds Try.pinned (OpenSpec.upto fnExactApplyToSpec)

/-- 'laws.FnPartitions', WHERE WHAT IT READS IS OF BULK AT MOST 1048576: true; the input reads as it did. -/
def fnPartitionsUptoRow : OpenClaim := { program := "ytijnfpfijgmopaa", sum := "1c8d1073bd288d408a4eaf102e9a5fa21163ccb01f739c50fa1473f18d7efb8f", func := "loop.example/g01078/laws.FnPartitions", spec := "fnPartitions", apart := false, narrowed := true }
def FnPartitionsUptoSaid : Prop := fnPartitionsUptoRow.holds Try.pinned (OpenSpec.upto fnPartitionsSpec)

/-- 'laws.FnExactFactorOfProduct', WHERE WHAT IT READS IS OF BULK AT MOST 1048576: true; the input reads as it did. -/
def fnExactFactorOfProductUptoRow : OpenClaim := { program := "ytijnfpfijgmopaa", sum := "1c8d1073bd288d408a4eaf102e9a5fa21163ccb01f739c50fa1473f18d7efb8f", func := "loop.example/g01078/laws.FnExactFactorOfProduct", spec := "fnExactFactorOfProduct", apart := false, narrowed := true }
def FnExactFactorOfProductUptoSaid : Prop := fnExactFactorOfProductUptoRow.holds Try.pinned (OpenSpec.upto fnExactFactorOfProductSpec)

/-- 'laws.FnExactPowerOf', WHERE WHAT IT READS IS OF BULK AT MOST 1048576: true; the input reads as it did. -/
def fnExactPowerOfUptoRow : OpenClaim := { program := "ytijnfpfijgmopaa", sum := "1c8d1073bd288d408a4eaf102e9a5fa21163ccb01f739c50fa1473f18d7efb8f", func := "loop.example/g01078/laws.FnExactPowerOf", spec := "fnExactPowerOf", apart := false, narrowed := true }
def FnExactPowerOfUptoSaid : Prop := fnExactPowerOfUptoRow.holds Try.pinned (OpenSpec.upto fnExactPowerOfSpec)

/-- 'laws.FnExactIsHom', WHERE WHAT IT READS IS OF BULK AT MOST 1048576: true; the input reads as it did. -/
def fnExactIsHomUptoRow : OpenClaim := { program := "ytijnfpfijgmopaa", sum := "1c8d1073bd288d408a4eaf102e9a5fa21163ccb01f739c50fa1473f18d7efb8f", func := "loop.example/g01078/laws.FnExactIsHom", spec := "fnExactIsHom", apart := false, narrowed := true }
def FnExactIsHomUptoSaid : Prop := fnExactIsHomUptoRow.holds Try.pinned (OpenSpec.upto fnExactIsHomSpec)

/-- 'laws.FnExactIsCongruence', WHERE WHAT IT READS IS OF BULK AT MOST 1048576: true; the input reads as it did. -/
def fnExactIsCongruenceUptoRow : OpenClaim := { program := "ytijnfpfijgmopaa", sum := "1c8d1073bd288d408a4eaf102e9a5fa21163ccb01f739c50fa1473f18d7efb8f", func := "loop.example/g01078/laws.FnExactIsCongruence", spec := "fnExactIsCongruence", apart := false, narrowed := true }
def FnExactIsCongruenceUptoSaid : Prop := fnExactIsCongruenceUptoRow.holds Try.pinned (OpenSpec.upto fnExactIsCongruenceSpec)

/-- 'laws.FnExactIsClosedList', WHERE WHAT IT READS IS OF BULK AT MOST 1048576: true; the input reads as it did. -/
def fnExactIsClosedListUptoRow : OpenClaim := { program := "ytijnfpfijgmopaa", sum := "1c8d1073bd288d408a4eaf102e9a5fa21163ccb01f739c50fa1473f18d7efb8f", func := "loop.example/g01078/laws.FnExactIsClosedList", spec := "fnExactIsClosedList", apart := false, narrowed := true }
def FnExactIsClosedListUptoSaid : Prop := fnExactIsClosedListUptoRow.holds Try.pinned (OpenSpec.upto fnExactIsClosedListSpec)

/-- 'laws.FnExactCongruenceOfPair', WHERE WHAT IT READS IS OF BULK AT MOST 1048576: true; the input reads as it did. -/
def fnExactCongruenceOfPairUptoRow : OpenClaim := { program := "ytijnfpfijgmopaa", sum := "1c8d1073bd288d408a4eaf102e9a5fa21163ccb01f739c50fa1473f18d7efb8f", func := "loop.example/g01078/laws.FnExactCongruenceOfPair", spec := "fnExactCongruenceOfPair", apart := false, narrowed := true }
def FnExactCongruenceOfPairUptoSaid : Prop := fnExactCongruenceOfPairUptoRow.holds Try.pinned (OpenSpec.upto fnExactCongruenceOfPairSpec)

/-- 'laws.FnExactTranslatedPairs', WHERE WHAT IT READS IS OF BULK AT MOST 1048576: true; the input reads as it did. -/
def fnExactTranslatedPairsUptoRow : OpenClaim := { program := "ytijnfpfijgmopaa", sum := "1c8d1073bd288d408a4eaf102e9a5fa21163ccb01f739c50fa1473f18d7efb8f", func := "loop.example/g01078/laws.FnExactTranslatedPairs", spec := "fnExactTranslatedPairs", unfollowed := true, recurses := true, apart := false, narrowed := true }
def FnExactTranslatedPairsUptoSaid : Prop := fnExactTranslatedPairsUptoRow.holds Try.pinned (OpenSpec.upto fnExactTranslatedPairsSpec)

/-- 'laws.FnExactProductOf', WHERE WHAT IT READS IS OF BULK AT MOST 1048576: true; the input reads as it did. -/
def fnExactProductOfUptoRow : OpenClaim := { program := "ytijnfpfijgmopaa", sum := "1c8d1073bd288d408a4eaf102e9a5fa21163ccb01f739c50fa1473f18d7efb8f", func := "loop.example/g01078/laws.FnExactProductOf", spec := "fnExactProductOf", apart := false, narrowed := true }
def FnExactProductOfUptoSaid : Prop := fnExactProductOfUptoRow.holds Try.pinned (OpenSpec.upto fnExactProductOfSpec)

end Rows
end Go.Proofs.Ytijnfpfijgmopaa
