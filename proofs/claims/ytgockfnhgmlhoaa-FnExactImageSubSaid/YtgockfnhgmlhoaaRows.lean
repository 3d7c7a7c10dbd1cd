/-
  No cell of these rows narrows 'for every input' (looked for: loops, veiled, ifaces, maps, wideKeys, modest, calm, conditions, laid).
  DERIVED. THE GIVEN ROWS OF THIS SEAT. 8 by the template 'for every input the law returns true; each argument reads behind the call as it read before'; 0 by the template 'total and deterministic' (their statements: YtgockfnhgmlhoaaTotals.lean).
  GIVEN WITH THE SEED: the statements are not yours to turn. If you find one false, say at which input.
  Laid BY PROGRAM, IN A SANDBOX (cutbox-rows.mjs): the forced cells as the released guide's own fill.sh prints them over the translation 9cc04c2d01b2fcea… (all of the seat's roots in one cut). By AI agents, Wed Nov 11 2026. No macro, syntax, notation, axiom, sorry.
-/
import Derived.Test.YtgockfnhgmlhoaaChecked
import GoSem.Claim
import GoSem.ClaimJoined
import GoSem.ClaimMapViews
import Derived.JoinedTies
import Derived.KernelRfl
namespace Go.Proofs.Ytgockfnhgmlhoaa
/- THE CELL 'sum', in the pinned program and in every row, IS THE sha256 OF THE DUMP (.gsa) THAT YtgockfnhgmlhoaaProg.lean LOADS. Nothing in Lean hashes anything: it is a label: what it is worth is what the hold of that sum in a sandbox is worth. -/
noncomputable def Try.pinned : Pinned := { name := "ytgockfnhgmlhoaa", sum := "9cc04c2d01b2fcea71473b649a24b34c4edcf1449fe072c95c9ac3e9addfa1d0", checked := Try.checked }
namespace Rows
def none {H : Type} : Left H := { results := [], args := [] }

/-- 'laws.FnExactRestrictCongruence': WHATEVER THE INPUT: true; the input reads as it did. -/
def fnExactRestrictCongruenceSpec : ChangeSpec := { name := "fnExactRestrictCongruence", fn := fun _ => fun
  | [d1, d2, d3] => { results := [.lit (.bool true)], args := [d1, d2, d3] }
  | _ => none }
def fnExactRestrictCongruenceRow : OpenClaim := { program := "ytgockfnhgmlhoaa", sum := "9cc04c2d01b2fcea71473b649a24b34c4edcf1449fe072c95c9ac3e9addfa1d0", func := "loop.example/g01078/laws.FnExactRestrictCongruence", spec := "fnExactRestrictCongruence", apart := false }
def FnExactRestrictCongruenceSaid : Prop := fnExactRestrictCongruenceRow.holds Try.pinned (OpenSpec.ofChange fnExactRestrictCongruenceSpec)

/-- ITS FALSE NEIGHBOUR: 'it returns false'. Refute it at one input. -/
def fnExactRestrictCongruenceWrong : ChangeSpec := { name := "fnExactRestrictCongruence", fn := fun _ => fun
  | [d1, d2, d3] => { results := [.lit (.bool false)], args := [d1, d2, d3] }
  | _ => none }
def FnExactRestrictCongruenceWrongFalsely : Prop := fnExactRestrictCongruenceRow.holds Try.pinned (OpenSpec.ofChange fnExactRestrictCongruenceWrong)

/-- 'laws.FnExactSaturateSub': WHATEVER THE INPUT: true; the input reads as it did. -/
def fnExactSaturateSubSpec : ChangeSpec := { name := "fnExactSaturateSub", fn := fun _ => fun
  | [d1, d2, d3] => { results := [.lit (.bool true)], args := [d1, d2, d3] }
  | _ => none }
def fnExactSaturateSubRow : OpenClaim := { program := "ytgockfnhgmlhoaa", sum := "9cc04c2d01b2fcea71473b649a24b34c4edcf1449fe072c95c9ac3e9addfa1d0", func := "loop.example/g01078/laws.FnExactSaturateSub", spec := "fnExactSaturateSub", apart := false }
def FnExactSaturateSubSaid : Prop := fnExactSaturateSubRow.holds Try.pinned (OpenSpec.ofChange fnExactSaturateSubSpec)

/-- ITS FALSE NEIGHBOUR: 'it returns false'. Refute it at one input. -/
def fnExactSaturateSubWrong : ChangeSpec := { name := "fnExactSaturateSub", fn := fun _ => fun
  | [d1, d2, d3] => { results := [.lit (.bool false)], args := [d1, d2, d3] }
  | _ => none }
def FnExactSaturateSubWrongFalsely : Prop := fnExactSaturateSubRow.holds Try.pinned (OpenSpec.ofChange fnExactSaturateSubWrong)

/-- 'laws.FnExactImageSub': WHATEVER THE INPUT: true; the input reads as it did. -/
def fnExactImageSubSpec : ChangeSpec := { name := "fnExactImageSub", fn := fun _ => fun
  | [d1, d2, d3] => { results := [.lit (.bool true)], args := [d1, d2, d3] }
  | _ => none }
def fnExactImageSubRow : OpenClaim := { program := "ytgockfnhgmlhoaa", sum := "9cc04c2d01b2fcea71473b649a24b34c4edcf1449fe072c95c9ac3e9addfa1d0", func := "loop.example/g01078/laws.FnExactImageSub", spec := "fnExactImageSub", apart := false }
def FnExactImageSubSaid : Prop := fnExactImageSubRow.holds Try.pinned (OpenSpec.ofChange fnExactImageSubSpec)

/-- ITS FALSE NEIGHBOUR: 'it returns false'. Refute it at one input. -/
def fnExactImageSubWrong : ChangeSpec := { name := "fnExactImageSub", fn := fun _ => fun
  | [d1, d2, d3] => { results := [.lit (.bool false)], args := [d1, d2, d3] }
  | _ => none }
def FnExactImageSubWrongFalsely : Prop := fnExactImageSubRow.holds Try.pinned (OpenSpec.ofChange fnExactImageSubWrong)

/-- 'laws.FnExactBlockSubs': WHATEVER THE INPUT: true; the input reads as it did. -/
def fnExactBlockSubsSpec : ChangeSpec := { name := "fnExactBlockSubs", fn := fun _ => fun
  | [d1, d2] => { results := [.lit (.bool true)], args := [d1, d2] }
  | _ => none }
def fnExactBlockSubsRow : OpenClaim := { program := "ytgockfnhgmlhoaa", sum := "9cc04c2d01b2fcea71473b649a24b34c4edcf1449fe072c95c9ac3e9addfa1d0", func := "loop.example/g01078/laws.FnExactBlockSubs", spec := "fnExactBlockSubs", apart := false }
def FnExactBlockSubsSaid : Prop := fnExactBlockSubsRow.holds Try.pinned (OpenSpec.ofChange fnExactBlockSubsSpec)

/-- ITS FALSE NEIGHBOUR: 'it returns false'. Refute it at one input. -/
def fnExactBlockSubsWrong : ChangeSpec := { name := "fnExactBlockSubs", fn := fun _ => fun
  | [d1, d2] => { results := [.lit (.bool false)], args := [d1, d2] }
  | _ => none }
def FnExactBlockSubsWrongFalsely : Prop := fnExactBlockSubsRow.holds Try.pinned (OpenSpec.ofChange fnExactBlockSubsWrong)

/-- 'laws.FnExactClosePartial': WHATEVER THE INPUT: true; the input reads as it did. -/
def fnExactClosePartialSpec : ChangeSpec := { name := "fnExactClosePartial", fn := fun _ => fun
  | [d1, d2, d3] => { results := [.lit (.bool true)], args := [d1, d2, d3] }
  | _ => none }
def fnExactClosePartialRow : OpenClaim := { program := "ytgockfnhgmlhoaa", sum := "9cc04c2d01b2fcea71473b649a24b34c4edcf1449fe072c95c9ac3e9addfa1d0", func := "loop.example/g01078/laws.FnExactClosePartial", spec := "fnExactClosePartial", apart := false }
def FnExactClosePartialSaid : Prop := fnExactClosePartialRow.holds Try.pinned (OpenSpec.ofChange fnExactClosePartialSpec)

/-- ITS FALSE NEIGHBOUR: 'it returns false'. Refute it at one input. -/
def fnExactClosePartialWrong : ChangeSpec := { name := "fnExactClosePartial", fn := fun _ => fun
  | [d1, d2, d3] => { results := [.lit (.bool false)], args := [d1, d2, d3] }
  | _ => none }
def FnExactClosePartialWrongFalsely : Prop := fnExactClosePartialRow.holds Try.pinned (OpenSpec.ofChange fnExactClosePartialWrong)

/-- 'laws.FnExactBlockLists': WHATEVER THE INPUT: true; the input reads as it did. -/
def fnExactBlockListsSpec : ChangeSpec := { name := "fnExactBlockLists", fn := fun _ => fun
  | [d1, d2] => { results := [.lit (.bool true)], args := [d1, d2] }
  | _ => none }
def fnExactBlockListsRow : OpenClaim := { program := "ytgockfnhgmlhoaa", sum := "9cc04c2d01b2fcea71473b649a24b34c4edcf1449fe072c95c9ac3e9addfa1d0", func := "loop.example/g01078/laws.FnExactBlockLists", spec := "fnExactBlockLists", apart := false }
def FnExactBlockListsSaid : Prop := fnExactBlockListsRow.holds Try.pinned (OpenSpec.ofChange fnExactBlockListsSpec)

/-- ITS FALSE NEIGHBOUR: 'it returns false'. Refute it at one input. -/
def fnExactBlockListsWrong : ChangeSpec := { name := "fnExactBlockLists", fn := fun _ => fun
  | [d1, d2] => { results := [.lit (.bool false)], args := [d1, d2] }
  | _ => none }
def FnExactBlockListsWrongFalsely : Prop := fnExactBlockListsRow.holds Try.pinned (OpenSpec.ofChange fnExactBlockListsWrong)

/-- 'laws.FnExactQuotientAlgebra': WHATEVER THE INPUT: true; the input reads as it did. -/
def fnExactQuotientAlgebraSpec : ChangeSpec := { name := "fnExactQuotientAlgebra", fn := fun _ => fun
  | [d1, d2] => { results := [.lit (.bool true)], args := [d1, d2] }
  | _ => none }
def fnExactQuotientAlgebraRow : OpenClaim := { program := "ytgockfnhgmlhoaa", sum := "9cc04c2d01b2fcea71473b649a24b34c4edcf1449fe072c95c9ac3e9addfa1d0", func := "loop.example/g01078/laws.FnExactQuotientAlgebra", spec := "fnExactQuotientAlgebra", apart := false }
def FnExactQuotientAlgebraSaid : Prop := fnExactQuotientAlgebraRow.holds Try.pinned (OpenSpec.ofChange fnExactQuotientAlgebraSpec)

/-- ITS FALSE NEIGHBOUR: 'it returns false'. Refute it at one input. -/
def fnExactQuotientAlgebraWrong : ChangeSpec := { name := "fnExactQuotientAlgebra", fn := fun _ => fun
  | [d1, d2] => { results := [.lit (.bool false)], args := [d1, d2] }
  | _ => none }
def FnExactQuotientAlgebraWrongFalsely : Prop := fnExactQuotientAlgebraRow.holds Try.pinned (OpenSpec.ofChange fnExactQuotientAlgebraWrong)

/-- 'laws.FnExactCongruenceChain': WHATEVER THE INPUT: true; the input reads as it did. -/
def fnExactCongruenceChainSpec : ChangeSpec := { name := "fnExactCongruenceChain", fn := fun _ => fun
  | [d1, d2, d3, d4, d5] => { results := [.lit (.bool true)], args := [d1, d2, d3, d4, d5] }
  | _ => none }
def fnExactCongruenceChainRow : OpenClaim := { program := "ytgockfnhgmlhoaa", sum := "9cc04c2d01b2fcea71473b649a24b34c4edcf1449fe072c95c9ac3e9addfa1d0", func := "loop.example/g01078/laws.FnExactCongruenceChain", spec := "fnExactCongruenceChain", unfollowed := true, recurses := true, apart := false }
def FnExactCongruenceChainSaid : Prop := fnExactCongruenceChainRow.holds Try.pinned (OpenSpec.ofChange fnExactCongruenceChainSpec)

/-- ITS FALSE NEIGHBOUR: 'it returns false'. Refute it at one input. -/
def fnExactCongruenceChainWrong : ChangeSpec := { name := "fnExactCongruenceChain", fn := fun _ => fun
  | [d1, d2, d3, d4, d5] => { results := [.lit (.bool false)], args := [d1, d2, d3, d4, d5] }
  | _ => none }
def FnExactCongruenceChainWrongFalsely : Prop := fnExactCongruenceChainRow.holds Try.pinned (OpenSpec.ofChange fnExactCongruenceChainWrong)

/- THE SECOND FORM. 'bulk': how many values and letters a reading holds, each counted each time it is reached (what is shared counts as often as it is met; a slice's spare places count too). A statement '..UptoSaid' is the law's where the arguments, and the package variables that the reading takes, are together of bulk at most 1048576: NARROWER than '..Said'. Prove '..Said' where nothing that the law and all that it calls make is longer than what came in: it says more and counts as full. Else prove '..UptoSaid'. A law counts once. -/
mutual
def uptoBulk {H : Type} : DataW H → Nat
  | .lit (.string bytes) => bytes.length + 1
  | .lit _ => 1
  | .nil => 1
  | .ptr d => uptoBulk d + 1
  | .slice elems spare => uptoBulkAll elems + uptoBulkAll spare + 1
  | .agg parts => uptoBulkAll parts + 1
  | .iface _ d => uptoBulk d + 1
  | .map entries => uptoBulkEntries entries + 1
  | .held _ => 1
def uptoBulkAll {H : Type} : List (DataW H) → Nat
  | [] => 0
  | d :: r => uptoBulk d + uptoBulkAll r
def uptoBulkEntries {H : Type} : List (Lit × DataW H) → Nat
  | [] => 0
  | x :: r => uptoBulkEntry x + uptoBulkEntries r
def uptoBulkEntry {H : Type} : Lit × DataW H → Nat
  | (.string bytes, d) => bytes.length + uptoBulk d + 1
  | (_, d) => uptoBulk d + 1
 end
def uptoSmall : (H : Type) → List (DataW H) → Bool := fun _ ds => decide (uptoBulkAll ds ≤ 1048576)
def OpenSpec.upto (s : _root_.Go.ChangeSpec) : _root_.Go.OpenSpec := { _root_.Go.OpenSpec.ofChange s with cond := some uptoSmall }

/-- 'laws.FnExactRestrictCongruence', WHERE WHAT IT READS IS OF BULK AT MOST 1048576: true; the input reads as it did. -/
def fnExactRestrictCongruenceUptoRow : OpenClaim := { program := "ytgockfnhgmlhoaa", sum := "9cc04c2d01b2fcea71473b649a24b34c4edcf1449fe072c95c9ac3e9addfa1d0", func := "loop.example/g01078/laws.FnExactRestrictCongruence", spec := "fnExactRestrictCongruence", apart := false, narrowed := true }
def FnExactRestrictCongruenceUptoSaid : Prop := fnExactRestrictCongruenceUptoRow.holds Try.pinned (OpenSpec.upto fnExactRestrictCongruenceSpec)

/-- 'laws.FnExactSaturateSub', WHERE WHAT IT READS IS OF BULK AT MOST 1048576: true; the input reads as it did. -/
def fnExactSaturateSubUptoRow : OpenClaim := { program := "ytgockfnhgmlhoaa", sum := "9cc04c2d01b2fcea71473b649a24b34c4edcf1449fe072c95c9ac3e9addfa1d0", func := "loop.example/g01078/laws.FnExactSaturateSub", spec := "fnExactSaturateSub", apart := false, narrowed := true }
def FnExactSaturateSubUptoSaid : Prop := fnExactSaturateSubUptoRow.holds Try.pinned (OpenSpec.upto fnExactSaturateSubSpec)

/-- 'laws.FnExactImageSub', WHERE WHAT IT READS IS OF BULK AT MOST 1048576: true; the input reads as it did. -/
def fnExactImageSubUptoRow : OpenClaim := { program := "ytgockfnhgmlhoaa", sum := "9cc04c2d01b2fcea71473b649a24b34c4edcf1449fe072c95c9ac3e9addfa1d0", func := "loop.example/g01078/laws.FnExactImageSub", spec := "fnExactImageSub", apart := false, narrowed := true }
def FnExactImageSubUptoSaid : Prop := fnExactImageSubUptoRow.holds Try.pinned (OpenSpec.upto fnExactImageSubSpec)

/-- 'laws.FnExactBlockSubs', WHERE WHAT IT READS IS OF BULK AT MOST 1048576: true; the input reads as it did. -/
def fnExactBlockSubsUptoRow : OpenClaim := { program := "ytgockfnhgmlhoaa", sum := "9cc04c2d01b2fcea71473b649a24b34c4edcf1449fe072c95c9ac3e9addfa1d0", func := "loop.example/g01078/laws.FnExactBlockSubs", spec := "fnExactBlockSubs", apart := false, narrowed := true }
def FnExactBlockSubsUptoSaid : Prop := fnExactBlockSubsUptoRow.holds Try.pinned (OpenSpec.upto fnExactBlockSubsSpec)

/-- 'laws.FnExactClosePartial', WHERE WHAT IT READS IS OF BULK AT MOST 1048576: true; the input reads as it did. -/
def fnExactClosePartialUptoRow : OpenClaim := { program := "ytgockfnhgmlhoaa", sum := "9cc04c2d01b2fcea71473b649a24b34c4edcf1449fe072c95c9ac3e9addfa1d0", func := "loop.example/g01078/laws.FnExactClosePartial", spec := "fnExactClosePartial", apart := false, narrowed := true }
def FnExactClosePartialUptoSaid : Prop := fnExactClosePartialUptoRow.holds Try.pinned (OpenSpec.upto fnExactClosePartialSpec)

/-- 'laws.FnExactBlockLists', WHERE WHAT IT READS IS OF BULK AT MOST 1048576: true; the input reads as it did. -/
def fnExactBlockListsUptoRow : OpenClaim := { program := "ytgockfnhgmlhoaa", sum := "9cc04c2d01b2fcea71473b649a24b34c4edcf1449fe072c95c9ac3e9addfa1d0", func := "loop.example/g01078/laws.FnExactBlockLists", spec := "fnExactBlockLists", apart := false, narrowed := true }
def FnExactBlockListsUptoSaid : Prop := fnExactBlockListsUptoRow.holds Try.pinned (OpenSpec.upto fnExactBlockListsSpec)

/-- 'laws.FnExactQuotientAlgebra', WHERE WHAT IT READS IS OF BULK AT MOST 1048576: true; the input reads as it did. -/
def fnExactQuotientAlgebraUptoRow : OpenClaim := { program := "ytgockfnhgmlhoaa", sum := "9cc04c2d01b2fcea71473b649a24b34c4edcf1449fe072c95c9ac3e9addfa1d0", func := "loop.example/g01078/laws.FnExactQuotientAlgebra", spec := "fnExactQuotientAlgebra", apart := false, narrowed := true }
def FnExactQuotientAlgebraUptoSaid : Prop := fnExactQuotientAlgebraUptoRow.holds Try.pinned (OpenSpec.upto fnExactQuotientAlgebraSpec)

/-- 'laws.FnExactCongruenceChain', WHERE WHAT IT READS IS OF BULK AT MOST 1048576: true; the input reads as it did. -/
def fnExactCongruenceChainUptoRow : OpenClaim := { program := "ytgockfnhgmlhoaa", sum := "9cc04c2d01b2fcea71473b649a24b34c4edcf1449fe072c95c9ac3e9addfa1d0", func := "loop.example/g01078/laws.FnExactCongruenceChain", spec := "fnExactCongruenceChain", unfollowed := true, recurses := true, apart := false, narrowed := true }
def FnExactCongruenceChainUptoSaid : Prop := fnExactCongruenceChainUptoRow.holds Try.pinned (OpenSpec.upto fnExactCongruenceChainSpec)

end Rows
end Go.Proofs.Ytgockfnhgmlhoaa
