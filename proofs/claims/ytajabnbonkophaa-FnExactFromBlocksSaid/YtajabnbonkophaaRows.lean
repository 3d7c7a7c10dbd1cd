/-
  No cell of these rows narrows 'for every input' (looked for: loops, veiled, ifaces, maps, wideKeys, modest, calm, conditions, laid).
  DERIVED. THE GIVEN ROWS OF THIS SEAT. 12 by the template 'for every input the law returns true; each argument reads behind the call as it read before'; 0 by the template 'total and deterministic' (their statements: YtajabnbonkophaaTotals.lean).
  GIVEN WITH THE SEED: the statements are not yours to turn. If you find one false, say at which input.
  Laid BY PROGRAM, IN A SANDBOX (cutbox-rows.mjs): the forced cells as the released guide's own fill.sh prints them over the translation 3440e345b11a2137… (all of the seat's roots in one cut). By AI agents, Wed Nov 11 2026. No macro, syntax, notation, axiom, sorry.
-/
import Derived.Test.YtajabnbonkophaaChecked
import GoSem.Claim
import GoSem.ClaimJoined
import GoSem.ClaimMapViews
import Derived.JoinedTies
import Derived.KernelRfl
namespace Go.Proofs.Ytajabnbonkophaa
/- THE CELL 'sum', in the pinned program and in every row, IS THE sha256 OF THE DUMP (.gsa) THAT YtajabnbonkophaaProg.lean LOADS. Nothing in Lean hashes anything: it is a label: what it is worth is what the hold of that sum in a sandbox is worth. -/
noncomputable def Try.pinned : Pinned := { name := "ytajabnbonkophaa", sum := "3440e345b11a213721f573de1ea141a14f1761cc5d6c25cf37bc00710c04558e", checked := Try.checked }
namespace Rows
def none {H : Type} : Left H := { results := [], args := [] }

/-- 'laws.FnExactIsPartition': WHATEVER THE INPUT: true; the input reads as it did. -/
def fnExactIsPartitionSpec : ChangeSpec := { name := "fnExactIsPartition", fn := fun _ => fun
  | [d1, d2] => { results := [.lit (.bool true)], args := [d1, d2] }
  | _ => none }
def fnExactIsPartitionRow : OpenClaim := { program := "ytajabnbonkophaa", sum := "3440e345b11a213721f573de1ea141a14f1761cc5d6c25cf37bc00710c04558e", func := "loop.example/g01078/laws.FnExactIsPartition", spec := "fnExactIsPartition", apart := false }
def FnExactIsPartitionSaid : Prop := fnExactIsPartitionRow.holds Try.pinned (OpenSpec.ofChange fnExactIsPartitionSpec)

/-- ITS FALSE NEIGHBOUR: 'it returns false'. Refute it at one input. -/
def fnExactIsPartitionWrong : ChangeSpec := { name := "fnExactIsPartition", fn := fun _ => fun
  | [d1, d2] => { results := [.lit (.bool false)], args := [d1, d2] }
  | _ => none }
def FnExactIsPartitionWrongFalsely : Prop := fnExactIsPartitionRow.holds Try.pinned (OpenSpec.ofChange fnExactIsPartitionWrong)

/-- 'laws.FnExactPartitionOfMap': WHATEVER THE INPUT: true; the input reads as it did. -/
def fnExactPartitionOfMapSpec : ChangeSpec := { name := "fnExactPartitionOfMap", fn := fun _ => fun
  | [d1, d2] => { results := [.lit (.bool true)], args := [d1, d2] }
  | _ => none }
def fnExactPartitionOfMapRow : OpenClaim := { program := "ytajabnbonkophaa", sum := "3440e345b11a213721f573de1ea141a14f1761cc5d6c25cf37bc00710c04558e", func := "loop.example/g01078/laws.FnExactPartitionOfMap", spec := "fnExactPartitionOfMap", apart := false }
def FnExactPartitionOfMapSaid : Prop := fnExactPartitionOfMapRow.holds Try.pinned (OpenSpec.ofChange fnExactPartitionOfMapSpec)

/-- ITS FALSE NEIGHBOUR: 'it returns false'. Refute it at one input. -/
def fnExactPartitionOfMapWrong : ChangeSpec := { name := "fnExactPartitionOfMap", fn := fun _ => fun
  | [d1, d2] => { results := [.lit (.bool false)], args := [d1, d2] }
  | _ => none }
def FnExactPartitionOfMapWrongFalsely : Prop := fnExactPartitionOfMapRow.holds Try.pinned (OpenSpec.ofChange fnExactPartitionOfMapWrong)

/-- 'laws.FnExactIsFiner': WHATEVER THE INPUT: true; the input reads as it did. -/
def fnExactIsFinerSpec : ChangeSpec := { name := "fnExactIsFiner", fn := fun _ => fun
  | [d1, d2, d3] => { results := [.lit (.bool true)], args := [d1, d2, d3] }
  | _ => none }
def fnExactIsFinerRow : OpenClaim := { program := "ytajabnbonkophaa", sum := "3440e345b11a213721f573de1ea141a14f1761cc5d6c25cf37bc00710c04558e", func := "loop.example/g01078/laws.FnExactIsFiner", spec := "fnExactIsFiner", apart := false }
def FnExactIsFinerSaid : Prop := fnExactIsFinerRow.holds Try.pinned (OpenSpec.ofChange fnExactIsFinerSpec)

/-- ITS FALSE NEIGHBOUR: 'it returns false'. Refute it at one input. -/
def fnExactIsFinerWrong : ChangeSpec := { name := "fnExactIsFiner", fn := fun _ => fun
  | [d1, d2, d3] => { results := [.lit (.bool false)], args := [d1, d2, d3] }
  | _ => none }
def FnExactIsFinerWrongFalsely : Prop := fnExactIsFinerRow.holds Try.pinned (OpenSpec.ofChange fnExactIsFinerWrong)

/-- 'laws.FnExactMeetPartitions': WHATEVER THE INPUT: true; the input reads as it did. -/
def fnExactMeetPartitionsSpec : ChangeSpec := { name := "fnExactMeetPartitions", fn := fun _ => fun
  | [d1, d2, d3] => { results := [.lit (.bool true)], args := [d1, d2, d3] }
  | _ => none }
def fnExactMeetPartitionsRow : OpenClaim := { program := "ytajabnbonkophaa", sum := "3440e345b11a213721f573de1ea141a14f1761cc5d6c25cf37bc00710c04558e", func := "loop.example/g01078/laws.FnExactMeetPartitions", spec := "fnExactMeetPartitions", apart := false }
def FnExactMeetPartitionsSaid : Prop := fnExactMeetPartitionsRow.holds Try.pinned (OpenSpec.ofChange fnExactMeetPartitionsSpec)

/-- ITS FALSE NEIGHBOUR: 'it returns false'. Refute it at one input. -/
def fnExactMeetPartitionsWrong : ChangeSpec := { name := "fnExactMeetPartitions", fn := fun _ => fun
  | [d1, d2, d3] => { results := [.lit (.bool false)], args := [d1, d2, d3] }
  | _ => none }
def FnExactMeetPartitionsWrongFalsely : Prop := fnExactMeetPartitionsRow.holds Try.pinned (OpenSpec.ofChange fnExactMeetPartitionsWrong)

/-- 'laws.FnExactBlocksOf': WHATEVER THE INPUT: true; the input reads as it did. -/
def fnExactBlocksOfSpec : ChangeSpec := { name := "fnExactBlocksOf", fn := fun _ => fun
  | [d1, d2] => { results := [.lit (.bool true)], args := [d1, d2] }
  | _ => none }
def fnExactBlocksOfRow : OpenClaim := { program := "ytajabnbonkophaa", sum := "3440e345b11a213721f573de1ea141a14f1761cc5d6c25cf37bc00710c04558e", func := "loop.example/g01078/laws.FnExactBlocksOf", spec := "fnExactBlocksOf", apart := false }
def FnExactBlocksOfSaid : Prop := fnExactBlocksOfRow.holds Try.pinned (OpenSpec.ofChange fnExactBlocksOfSpec)

/-- ITS FALSE NEIGHBOUR: 'it returns false'. Refute it at one input. -/
def fnExactBlocksOfWrong : ChangeSpec := { name := "fnExactBlocksOf", fn := fun _ => fun
  | [d1, d2] => { results := [.lit (.bool false)], args := [d1, d2] }
  | _ => none }
def FnExactBlocksOfWrongFalsely : Prop := fnExactBlocksOfRow.holds Try.pinned (OpenSpec.ofChange fnExactBlocksOfWrong)

/-- 'laws.FnExactJoinPartitions': WHATEVER THE INPUT: true; the input reads as it did. -/
def fnExactJoinPartitionsSpec : ChangeSpec := { name := "fnExactJoinPartitions", fn := fun _ => fun
  | [d1, d2, d3] => { results := [.lit (.bool true)], args := [d1, d2, d3] }
  | _ => none }
def fnExactJoinPartitionsRow : OpenClaim := { program := "ytajabnbonkophaa", sum := "3440e345b11a213721f573de1ea141a14f1761cc5d6c25cf37bc00710c04558e", func := "loop.example/g01078/laws.FnExactJoinPartitions", spec := "fnExactJoinPartitions", apart := false }
def FnExactJoinPartitionsSaid : Prop := fnExactJoinPartitionsRow.holds Try.pinned (OpenSpec.ofChange fnExactJoinPartitionsSpec)

/-- ITS FALSE NEIGHBOUR: 'it returns false'. Refute it at one input. -/
def fnExactJoinPartitionsWrong : ChangeSpec := { name := "fnExactJoinPartitions", fn := fun _ => fun
  | [d1, d2, d3] => { results := [.lit (.bool false)], args := [d1, d2, d3] }
  | _ => none }
def FnExactJoinPartitionsWrongFalsely : Prop := fnExactJoinPartitionsRow.holds Try.pinned (OpenSpec.ofChange fnExactJoinPartitionsWrong)

/-- 'laws.FnExactEssentialPlaces': WHATEVER THE INPUT: true; the input reads as it did. -/
def fnExactEssentialPlacesSpec : ChangeSpec := { name := "fnExactEssentialPlaces", fn := fun _ => fun
  | [d1, d2] => { results := [.lit (.bool true)], args := [d1, d2] }
  | _ => none }
def fnExactEssentialPlacesRow : OpenClaim := { program := "ytajabnbonkophaa", sum := "3440e345b11a213721f573de1ea141a14f1761cc5d6c25cf37bc00710c04558e", func := "loop.example/g01078/laws.FnExactEssentialPlaces", spec := "fnExactEssentialPlaces", apart := false }
def FnExactEssentialPlacesSaid : Prop := fnExactEssentialPlacesRow.holds Try.pinned (OpenSpec.ofChange fnExactEssentialPlacesSpec)

/-- ITS FALSE NEIGHBOUR: 'it returns false'. Refute it at one input. -/
def fnExactEssentialPlacesWrong : ChangeSpec := { name := "fnExactEssentialPlaces", fn := fun _ => fun
  | [d1, d2] => { results := [.lit (.bool false)], args := [d1, d2] }
  | _ => none }
def FnExactEssentialPlacesWrongFalsely : Prop := fnExactEssentialPlacesRow.holds Try.pinned (OpenSpec.ofChange fnExactEssentialPlacesWrong)

/-- 'laws.FnExactIsProjection': WHATEVER THE INPUT: true; the input reads as it did. -/
def fnExactIsProjectionSpec : ChangeSpec := { name := "fnExactIsProjection", fn := fun _ => fun
  | [d1, d2] => { results := [.lit (.bool true)], args := [d1, d2] }
  | _ => none }
def fnExactIsProjectionRow : OpenClaim := { program := "ytajabnbonkophaa", sum := "3440e345b11a213721f573de1ea141a14f1761cc5d6c25cf37bc00710c04558e", func := "loop.example/g01078/laws.FnExactIsProjection", spec := "fnExactIsProjection", apart := false }
def FnExactIsProjectionSaid : Prop := fnExactIsProjectionRow.holds Try.pinned (OpenSpec.ofChange fnExactIsProjectionSpec)

/-- ITS FALSE NEIGHBOUR: 'it returns false'. Refute it at one input. -/
def fnExactIsProjectionWrong : ChangeSpec := { name := "fnExactIsProjection", fn := fun _ => fun
  | [d1, d2] => { results := [.lit (.bool false)], args := [d1, d2] }
  | _ => none }
def FnExactIsProjectionWrongFalsely : Prop := fnExactIsProjectionRow.holds Try.pinned (OpenSpec.ofChange fnExactIsProjectionWrong)

/-- 'laws.FnExactDoCommute': WHATEVER THE INPUT: true; the input reads as it did. -/
def fnExactDoCommuteSpec : ChangeSpec := { name := "fnExactDoCommute", fn := fun _ => fun
  | [d1, d2, d3] => { results := [.lit (.bool true)], args := [d1, d2, d3] }
  | _ => none }
def fnExactDoCommuteRow : OpenClaim := { program := "ytajabnbonkophaa", sum := "3440e345b11a213721f573de1ea141a14f1761cc5d6c25cf37bc00710c04558e", func := "loop.example/g01078/laws.FnExactDoCommute", spec := "fnExactDoCommute", apart := false }
def FnExactDoCommuteSaid : Prop := fnExactDoCommuteRow.holds Try.pinned (OpenSpec.ofChange fnExactDoCommuteSpec)

/-- ITS FALSE NEIGHBOUR: 'it returns false'. Refute it at one input. -/
def fnExactDoCommuteWrong : ChangeSpec := { name := "fnExactDoCommute", fn := fun _ => fun
  | [d1, d2, d3] => { results := [.lit (.bool false)], args := [d1, d2, d3] }
  | _ => none }
def FnExactDoCommuteWrongFalsely : Prop := fnExactDoCommuteRow.holds Try.pinned (OpenSpec.ofChange fnExactDoCommuteWrong)

/-- 'laws.FnExactFromBlocks': WHATEVER THE INPUT: true; the input reads as it did. -/
def fnExactFromBlocksSpec : ChangeSpec := { name := "fnExactFromBlocks", fn := fun _ => fun
  | [d1, d2] => { results := [.lit (.bool true)], args := [d1, d2] }
  | _ => none }
def fnExactFromBlocksRow : OpenClaim := { program := "ytajabnbonkophaa", sum := "3440e345b11a213721f573de1ea141a14f1761cc5d6c25cf37bc00710c04558e", func := "loop.example/g01078/laws.FnExactFromBlocks", spec := "fnExactFromBlocks", apart := false }
def FnExactFromBlocksSaid : Prop := fnExactFromBlocksRow.holds Try.pinned (OpenSpec.ofChange fnExactFromBlocksSpec)

/-- ITS FALSE NEIGHBOUR: 'it returns false'. Refute it at one input. -/
def fnExactFromBlocksWrong : ChangeSpec := { name := "fnExactFromBlocks", fn := fun _ => fun
  | [d1, d2] => { results := [.lit (.bool false)], args := [d1, d2] }
  | _ => none }
def FnExactFromBlocksWrongFalsely : Prop := fnExactFromBlocksRow.holds Try.pinned (OpenSpec.ofChange fnExactFromBlocksWrong)

/-- 'laws.FnExactMinorOf': WHATEVER THE INPUT: true; the input reads as it did. -/
def fnExactMinorOfSpec : ChangeSpec := { name := "fnExactMinorOf", fn := fun _ => fun
  | [d1, d2, d3, d4] => { results := [.lit (.bool true)], args := [d1, d2, d3, d4] }
  | _ => none }
def fnExactMinorOfRow : OpenClaim := { program := "ytajabnbonkophaa", sum := "3440e345b11a213721f573de1ea141a14f1761cc5d6c25cf37bc00710c04558e", func := "loop.example/g01078/laws.FnExactMinorOf", spec := "fnExactMinorOf", apart := false }
def FnExactMinorOfSaid : Prop := fnExactMinorOfRow.holds Try.pinned (OpenSpec.ofChange fnExactMinorOfSpec)

/-- ITS FALSE NEIGHBOUR: 'it returns false'. Refute it at one input. -/
def fnExactMinorOfWrong : ChangeSpec := { name := "fnExactMinorOf", fn := fun _ => fun
  | [d1, d2, d3, d4] => { results := [.lit (.bool false)], args := [d1, d2, d3, d4] }
  | _ => none }
def FnExactMinorOfWrongFalsely : Prop := fnExactMinorOfRow.holds Try.pinned (OpenSpec.ofChange fnExactMinorOfWrong)

/-- 'laws.FnExactComposeFunctions': WHATEVER THE INPUT: true; the input reads as it did. -/
def fnExactComposeFunctionsSpec : ChangeSpec := { name := "fnExactComposeFunctions", fn := fun _ => fun
  | [d1, d2, d3] => { results := [.lit (.bool true)], args := [d1, d2, d3] }
  | _ => none }
def fnExactComposeFunctionsRow : OpenClaim := { program := "ytajabnbonkophaa", sum := "3440e345b11a213721f573de1ea141a14f1761cc5d6c25cf37bc00710c04558e", func := "loop.example/g01078/laws.FnExactComposeFunctions", spec := "fnExactComposeFunctions", apart := false }
def FnExactComposeFunctionsSaid : Prop := fnExactComposeFunctionsRow.holds Try.pinned (OpenSpec.ofChange fnExactComposeFunctionsSpec)

/-- ITS FALSE NEIGHBOUR: 'it returns false'. Refute it at one input. -/
def fnExactComposeFunctionsWrong : ChangeSpec := { name := "fnExactComposeFunctions", fn := fun _ => fun
  | [d1, d2, d3] => { results := [.lit (.bool false)], args := [d1, d2, d3] }
  | _ => none }
def FnExactComposeFunctionsWrongFalsely : Prop := fnExactComposeFunctionsRow.holds Try.pinned (OpenSpec.ofChange fnExactComposeFunctionsWrong)

/- THE SECOND FORM. 'bulk': how many values and letters a reading holds, each counted each time it is reached (what is shared counts as often as it is met; a slice's spare places count too). A statement '..UptoSaid' is the law's where the arguments, and the package variables that the reading takes, are together of bulk at most 1048576: NARROWER than '..Said'. Prove '..Said' where nothing that the law and all that it calls make is longer than what came in: it says more and counts as full. Else prove '..UptoSaid'. A law counts once. -/
mutual
def uptoBulk {H : Type} : DataW H → Nat
  | .lit (.string bytes) => bytes.length + 1
  | .lit _ => 1
  | .nil => 1
  | .ptr d => uptoBulk d + 1
  | .slice elems spare => uptoBulkAll elems + uptoBulkAll spare + 1
  | .agg parts => uptoBulkAll parts + 1
  | .iface _ d => uptoBulk d + 1
  | .map entries => uptoBulkEntries entries + 1
  | .held _ => 1
def uptoBulkAll {H : Type} : List (DataW H) → Nat
  | [] => 0
  | d :: r => uptoBulk d + uptoBulkAll r
def uptoBulkEntries {H : Type} : List (Lit × DataW H) → Nat
  | [] => 0
  | x :: r => uptoBulkEntry x + uptoBulkEntries r
def uptoBulkEntry {H : Type} : Lit × DataW H → Nat
  | (.string bytes, d) => bytes.length + uptoBulk d + 1
  | (_, d) => uptoBulk d + 1
 end
def uptoSmall : (H : Type) → List (DataW H) → Bool := fun _ ds => decide (uptoBulkAll ds ≤ 1048576)
def OpenSpec.upto (s : _root_.Go.ChangeSpec) : _root_.Go.OpenSpec := { _root_.Go.OpenSpec.ofChange s with cond := some uptoSmall }

/-- 'laws.FnExactIsPartition', WHERE WHAT IT READS IS OF BULK AT MOST 1048576: true; the input reads as it did. -/
def fnExactIsPartitionUptoRow : OpenClaim := { program := "ytajabnbonkophaa", sum := "3440e345b11a213721f573de1ea141a14f1761cc5d6c25cf37bc00710c04558e", func := "loop.example/g01078/laws.FnExactIsPartition", spec := "fnExactIsPartition", apart := false, narrowed := true }
def FnExactIsPartitionUptoSaid : Prop := fnExactIsPartitionUptoRow.holds Try.pinned (OpenSpec.upto fnExactIsPartitionSpec)

/-- 'laws.FnExactPartitionOfMap', WHERE WHAT IT READS IS OF BULK AT MOST 1048576: true; the input reads as it did. -/
def fnExactPartitionOfMapUptoRow : OpenClaim := { program := "ytajabnbonkophaa", sum := "3440e345b11a213721f573de1ea141a14f1761cc5d6c25cf37bc00710c04558e", func := "loop.example/g01078/laws.FnExactPartitionOfMap", spec := "fnExactPartitionOfMap", apart := false, narrowed := true }
def FnExactPartitionOfMapUptoSaid : Prop := fnExactPartitionOfMapUptoRow.holds Try.pinned (OpenSpec.upto fnExactPartitionOfMapSpec)

/-- 'laws.FnExactIsFiner', WHERE WHAT IT READS IS OF BULK AT MOST 1048576: true; the input reads as it did. -/
def fnExactIsFinerUptoRow : OpenClaim := { program := "ytajabnbonkophaa", sum := "3440e345b11a213721f573de1ea141a14f1761cc5d6c25cf37bc00710c04558e", func := "loop.example/g01078/laws.FnExactIsFiner", spec := "fnExactIsFiner", apart := false, narrowed := true }
def FnExactIsFinerUptoSaid : Prop := fnExactIsFinerUptoRow.holds Try.pinned (OpenSpec.upto fnExactIsFinerSpec)

/-- 'laws.FnExactMeetPartitions', WHERE WHAT IT READS IS OF BULK AT MOST 1048576: true; the input reads as it did. -/
def fnExactMeetPartitionsUptoRow : OpenClaim := { program := "ytajabnbonkophaa", sum := "3440e345b11a213721f573de1ea141a14f1761cc5d6c25cf37bc00710c04558e", func := "loop.example/g01078/laws.FnExactMeetPartitions", spec := "fnExactMeetPartitions", apart := false, narrowed := true }
def FnExactMeetPartitionsUptoSaid : Prop := fnExactMeetPartitionsUptoRow.holds Try.pinned (OpenSpec.upto fnExactMeetPartitionsSpec)

/-- 'laws.FnExactBlocksOf', WHERE WHAT IT READS IS OF BULK AT MOST 1048576: true; the input reads as it did. -/
def fnExactBlocksOfUptoRow : OpenClaim := { program := "ytajabnbonkophaa", sum := "3440e345b11a213721f573de1ea141a14f1761cc5d6c25cf37bc00710c04558e", func := "loop.example/g01078/laws.FnExactBlocksOf", spec := "fnExactBlocksOf", apart := false, narrowed := true }
def FnExactBlocksOfUptoSaid : Prop := fnExactBlocksOfUptoRow.holds Try.pinned (OpenSpec.upto fnExactBlocksOfSpec)

/-- 'laws.FnExactJoinPartitions', WHERE WHAT IT READS IS OF BULK AT MOST 1048576: true; the input reads as it did. -/
def fnExactJoinPartitionsUptoRow : OpenClaim := { program := "ytajabnbonkophaa", sum := "3440e345b11a213721f573de1ea141a14f1761cc5d6c25cf37bc00710c04558e", func := "loop.example/g01078/laws.FnExactJoinPartitions", spec := "fnExactJoinPartitions", apart := false, narrowed := true }
def FnExactJoinPartitionsUptoSaid : Prop := fnExactJoinPartitionsUptoRow.holds Try.pinned (OpenSpec.upto fnExactJoinPartitionsSpec)

/-- 'laws.FnExactEssentialPlaces', WHERE WHAT IT READS IS OF BULK AT MOST 1048576: true; the input reads as it did. -/
def fnExactEssentialPlacesUptoRow : OpenClaim := { program := "ytajabnbonkophaa", sum := "3440e345b11a213721f573de1ea141a14f1761cc5d6c25cf37bc00710c04558e", func := "loop.example/g01078/laws.FnExactEssentialPlaces", spec := "fnExactEssentialPlaces", apart := false, narrowed := true }
def FnExactEssentialPlacesUptoSaid : Prop := fnExactEssentialPlacesUptoRow.holds Try.pinned (OpenSpec.upto fnExactEssentialPlacesSpec)

/-- 'laws.FnExactIsProjection', WHERE WHAT IT READS IS OF BULK AT MOST 1048576: true; the input reads as it did. -/
def fnExactIsProjectionUptoRow : OpenClaim := { program := "ytajabnbonkophaa", sum := "3440e345b11a213721f573de1ea141a14f1761cc5d6c25cf37bc00710c04558e", func := "loop.example/g01078/laws.FnExactIsProjection", spec := "fnExactIsProjection", apart := false, narrowed := true }
def FnExactIsProjectionUptoSaid : Prop := fnExactIsProjectionUptoRow.holds Try.pinned (OpenSpec.upto fnExactIsProjectionSpec)

/-- 'laws.FnExactDoCommute', WHERE WHAT IT READS IS OF BULK AT MOST 1048576: true; the input reads as it did. -/
def fnExactDoCommuteUptoRow : OpenClaim := { program := "ytajabnbonkophaa", sum := "3440e345b11a213721f573de1ea141a14f1761cc5d6c25cf37bc00710c04558e", func := "loop.example/g01078/laws.FnExactDoCommute", spec := "fnExactDoCommute", apart := false, narrowed := true }
def FnExactDoCommuteUptoSaid : Prop := fnExactDoCommuteUptoRow.holds Try.pinned (OpenSpec.upto fnExactDoCommuteSpec)

/-- 'laws.FnExactFromBlocks', WHERE WHAT IT READS IS OF BULK AT MOST 1048576: true; the input reads as it did. -/
def fnExactFromBlocksUptoRow : OpenClaim := { program := "ytajabnbonkophaa", sum := "3440e345b11a213721f573de1ea141a14f1761cc5d6c25cf37bc00710c04558e", func := "loop.example/g01078/laws.FnExactFromBlocks", spec := "fnExactFromBlocks", apart := false, narrowed := true }
def FnExactFromBlocksUptoSaid : Prop := fnExactFromBlocksUptoRow.holds Try.pinned (OpenSpec.upto fnExactFromBlocksSpec)

/-- 'laws.FnExactMinorOf', WHERE WHAT IT READS IS OF BULK AT MOST 1048576: true; the input reads as it did. -/
def fnExactMinorOfUptoRow : OpenClaim := { program := "ytajabnbonkophaa", sum := "3440e345b11a213721f573de1ea141a14f1761cc5d6c25cf37bc00710c04558e", func := "loop.example/g01078/laws.FnExactMinorOf", spec := "fnExactMinorOf", apart := false, narrowed := true }
def FnExactMinorOfUptoSaid : Prop := fnExactMinorOfUptoRow.holds Try.pinned (OpenSpec.upto fnExactMinorOfSpec)

/-- 'laws.FnExactComposeFunctions', WHERE WHAT IT READS IS OF BULK AT MOST 1048576: true; the input reads as it did. -/
def fnExactComposeFunctionsUptoRow : OpenClaim := { program := "ytajabnbonkophaa", sum := "3440e345b11a213721f573de1ea141a14f1761cc5d6c25cf37bc00710c04558e", func := "loop.example/g01078/laws.FnExactComposeFunctions", spec := "fnExactComposeFunctions", apart := false, narrowed := true }
def FnExactComposeFunctionsUptoSaid : Prop := fnExactComposeFunctionsUptoRow.holds Try.pinned (OpenSpec.upto fnExactComposeFunctionsSpec)

end Rows
end Go.Proofs.Ytajabnbonkophaa
