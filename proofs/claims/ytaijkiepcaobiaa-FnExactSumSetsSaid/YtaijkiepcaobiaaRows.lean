/-
  No cell of these rows narrows 'for every input' (looked for: loops, veiled, ifaces, maps, wideKeys, modest, calm, conditions, laid).
  DERIVED. THE GIVEN ROWS OF THIS SEAT. 12 by the template 'for every input the law returns true; each argument reads behind the call as it read before'; 0 by the template 'total and deterministic' (their statements: YtaijkiepcaobiaaTotals.lean).
  GIVEN WITH THE SEED: the statements are not yours to turn. If you find one false, say at which input.
  Laid BY PROGRAM, IN A SANDBOX (cutbox-rows.mjs): the forced cells as the released guide's own fill.sh prints them over the translation ead236aaf852cafb… (all of the seat's roots in one cut). By AI agents, Wed Nov 11 2026. No macro, syntax, notation, axiom, sorry.
-/
import Derived.Test.YtaijkiepcaobiaaChecked
import GoSem.Claim
import GoSem.ClaimJoined
import GoSem.ClaimMapViews
import Derived.JoinedTies
import Derived.KernelRfl
namespace Go.Proofs.Ytaijkiepcaobiaa
/- THE CELL 'sum', in the pinned program and in every row, IS THE sha256 OF THE DUMP (.gsa) THAT YtaijkiepcaobiaaProg.lean LOADS. Nothing in Lean hashes anything: it is a label: what it is worth is what the hold of that sum in a sandbox is worth. -/
noncomputable def Try.pinned : Pinned := { name := "ytaijkiepcaobiaa", sum := "ead236aaf852cafb6d65bca13e03a465c20f86b91346157a1b55a62502065b9c", checked := Try.checked }
namespace Rows
def none {H : Type} : Left H := { results := [], args := [] }

/-- 'laws.FnExactThenFunctors': WHATEVER THE INPUT: true; the input reads as it did. -/
def fnExactThenFunctorsSpec : ChangeSpec := { name := "fnExactThenFunctors", fn := fun _ => fun
  | [d1, d2] => { results := [.lit (.bool true)], args := [d1, d2] }
  | _ => none }
def fnExactThenFunctorsRow : OpenClaim := { program := "ytaijkiepcaobiaa", sum := "ead236aaf852cafb6d65bca13e03a465c20f86b91346157a1b55a62502065b9c", func := "loop.example/g01083/laws.FnExactThenFunctors", spec := "fnExactThenFunctors", apart := false }
def FnExactThenFunctorsSaid : Prop := fnExactThenFunctorsRow.holds Try.pinned (OpenSpec.ofChange fnExactThenFunctorsSpec)

/-- ITS FALSE NEIGHBOUR: 'it returns false'. Refute it at one input. -/
def fnExactThenFunctorsWrong : ChangeSpec := { name := "fnExactThenFunctors", fn := fun _ => fun
  | [d1, d2] => { results := [.lit (.bool false)], args := [d1, d2] }
  | _ => none }
def FnExactThenFunctorsWrongFalsely : Prop := fnExactThenFunctorsRow.holds Try.pinned (OpenSpec.ofChange fnExactThenFunctorsWrong)

/-- 'laws.FnExactProductFunctor': WHATEVER THE INPUT: true; the input reads as it did. -/
def fnExactProductFunctorSpec : ChangeSpec := { name := "fnExactProductFunctor", fn := fun _ => fun
  | [d1, d2] => { results := [.lit (.bool true)], args := [d1, d2] }
  | _ => none }
def fnExactProductFunctorRow : OpenClaim := { program := "ytaijkiepcaobiaa", sum := "ead236aaf852cafb6d65bca13e03a465c20f86b91346157a1b55a62502065b9c", func := "loop.example/g01083/laws.FnExactProductFunctor", spec := "fnExactProductFunctor", unfollowed := true, recurses := true, apart := false }
def FnExactProductFunctorSaid : Prop := fnExactProductFunctorRow.holds Try.pinned (OpenSpec.ofChange fnExactProductFunctorSpec)

/-- ITS FALSE NEIGHBOUR: 'it returns false'. Refute it at one input. -/
def fnExactProductFunctorWrong : ChangeSpec := { name := "fnExactProductFunctor", fn := fun _ => fun
  | [d1, d2] => { results := [.lit (.bool false)], args := [d1, d2] }
  | _ => none }
def FnExactProductFunctorWrongFalsely : Prop := fnExactProductFunctorRow.holds Try.pinned (OpenSpec.ofChange fnExactProductFunctorWrong)

/-- 'laws.FnExactNaturalProfunctor': WHATEVER THE INPUT: true; the input reads as it did. -/
def fnExactNaturalProfunctorSpec : ChangeSpec := { name := "fnExactNaturalProfunctor", fn := fun _ => fun
  | [d1, d2] => { results := [.lit (.bool true)], args := [d1, d2] }
  | _ => none }
def fnExactNaturalProfunctorRow : OpenClaim := { program := "ytaijkiepcaobiaa", sum := "ead236aaf852cafb6d65bca13e03a465c20f86b91346157a1b55a62502065b9c", func := "loop.example/g01083/laws.FnExactNaturalProfunctor", spec := "fnExactNaturalProfunctor", unfollowed := true, recurses := true, apart := false }
def FnExactNaturalProfunctorSaid : Prop := fnExactNaturalProfunctorRow.holds Try.pinned (OpenSpec.ofChange fnExactNaturalProfunctorSpec)

/-- ITS FALSE NEIGHBOUR: 'it returns false'. Refute it at one input. -/
def fnExactNaturalProfunctorWrong : ChangeSpec := { name := "fnExactNaturalProfunctor", fn := fun _ => fun
  | [d1, d2] => { results := [.lit (.bool false)], args := [d1, d2] }
  | _ => none }
def FnExactNaturalProfunctorWrongFalsely : Prop := fnExactNaturalProfunctorRow.holds Try.pinned (OpenSpec.ofChange fnExactNaturalProfunctorWrong)

/-- 'laws.FnExactFixSecond': WHATEVER THE INPUT: true; the input reads as it did. -/
def fnExactFixSecondSpec : ChangeSpec := { name := "fnExactFixSecond", fn := fun _ => fun
  | [d1, d2, d3, d4] => { results := [.lit (.bool true)], args := [d1, d2, d3, d4] }
  | _ => none }
def fnExactFixSecondRow : OpenClaim := { program := "ytaijkiepcaobiaa", sum := "ead236aaf852cafb6d65bca13e03a465c20f86b91346157a1b55a62502065b9c", func := "loop.example/g01083/laws.FnExactFixSecond", spec := "fnExactFixSecond", unfollowed := true, recurses := true, apart := false }
def FnExactFixSecondSaid : Prop := fnExactFixSecondRow.holds Try.pinned (OpenSpec.ofChange fnExactFixSecondSpec)

/-- ITS FALSE NEIGHBOUR: 'it returns false'. Refute it at one input. -/
def fnExactFixSecondWrong : ChangeSpec := { name := "fnExactFixSecond", fn := fun _ => fun
  | [d1, d2, d3, d4] => { results := [.lit (.bool false)], args := [d1, d2, d3, d4] }
  | _ => none }
def FnExactFixSecondWrongFalsely : Prop := fnExactFixSecondRow.holds Try.pinned (OpenSpec.ofChange fnExactFixSecondWrong)

/-- 'laws.FnExactSumSets': WHATEVER THE INPUT: true; the input reads as it did. -/
def fnExactSumSetsSpec : ChangeSpec := { name := "fnExactSumSets", fn := fun _ => fun
  | [d1, d2] => { results := [.lit (.bool true)], args := [d1, d2] }
  | _ => none }
def fnExactSumSetsRow : OpenClaim := { program := "ytaijkiepcaobiaa", sum := "ead236aaf852cafb6d65bca13e03a465c20f86b91346157a1b55a62502065b9c", func := "loop.example/g01083/laws.FnExactSumSets", spec := "fnExactSumSets", apart := false }
def FnExactSumSetsSaid : Prop := fnExactSumSetsRow.holds Try.pinned (OpenSpec.ofChange fnExactSumSetsSpec)

/-- ITS FALSE NEIGHBOUR: 'it returns false'. Refute it at one input. -/
def fnExactSumSetsWrong : ChangeSpec := { name := "fnExactSumSets", fn := fun _ => fun
  | [d1, d2] => { results := [.lit (.bool false)], args := [d1, d2] }
  | _ => none }
def FnExactSumSetsWrongFalsely : Prop := fnExactSumSetsRow.holds Try.pinned (OpenSpec.ofChange fnExactSumSetsWrong)

/-- 'laws.FnExactPairFunctors': WHATEVER THE INPUT: true; the input reads as it did. -/
def fnExactPairFunctorsSpec : ChangeSpec := { name := "fnExactPairFunctors", fn := fun _ => fun
  | [d1, d2] => { results := [.lit (.bool true)], args := [d1, d2] }
  | _ => none }
def fnExactPairFunctorsRow : OpenClaim := { program := "ytaijkiepcaobiaa", sum := "ead236aaf852cafb6d65bca13e03a465c20f86b91346157a1b55a62502065b9c", func := "loop.example/g01083/laws.FnExactPairFunctors", spec := "fnExactPairFunctors", unfollowed := true, recurses := true, apart := false }
def FnExactPairFunctorsSaid : Prop := fnExactPairFunctorsRow.holds Try.pinned (OpenSpec.ofChange fnExactPairFunctorsSpec)

/-- ITS FALSE NEIGHBOUR: 'it returns false'. Refute it at one input. -/
def fnExactPairFunctorsWrong : ChangeSpec := { name := "fnExactPairFunctors", fn := fun _ => fun
  | [d1, d2] => { results := [.lit (.bool false)], args := [d1, d2] }
  | _ => none }
def FnExactPairFunctorsWrongFalsely : Prop := fnExactPairFunctorsRow.holds Try.pinned (OpenSpec.ofChange fnExactPairFunctorsWrong)

/-- 'laws.FnExactFixFirst': WHATEVER THE INPUT: true; the input reads as it did. -/
def fnExactFixFirstSpec : ChangeSpec := { name := "fnExactFixFirst", fn := fun _ => fun
  | [d1, d2, d3, d4] => { results := [.lit (.bool true)], args := [d1, d2, d3, d4] }
  | _ => none }
def fnExactFixFirstRow : OpenClaim := { program := "ytaijkiepcaobiaa", sum := "ead236aaf852cafb6d65bca13e03a465c20f86b91346157a1b55a62502065b9c", func := "loop.example/g01083/laws.FnExactFixFirst", spec := "fnExactFixFirst", unfollowed := true, recurses := true, apart := false }
def FnExactFixFirstSaid : Prop := fnExactFixFirstRow.holds Try.pinned (OpenSpec.ofChange fnExactFixFirstSpec)

/-- ITS FALSE NEIGHBOUR: 'it returns false'. Refute it at one input. -/
def fnExactFixFirstWrong : ChangeSpec := { name := "fnExactFixFirst", fn := fun _ => fun
  | [d1, d2, d3, d4] => { results := [.lit (.bool false)], args := [d1, d2, d3, d4] }
  | _ => none }
def FnExactFixFirstWrongFalsely : Prop := fnExactFixFirstRow.holds Try.pinned (OpenSpec.ofChange fnExactFixFirstWrong)

/-- 'laws.FnExactCompanionOf': WHATEVER THE INPUT: true; the input reads as it did. -/
def fnExactCompanionOfSpec : ChangeSpec := { name := "fnExactCompanionOf", fn := fun _ => fun
  | [d] => { results := [.lit (.bool true)], args := [d] }
  | _ => none }
def fnExactCompanionOfRow : OpenClaim := { program := "ytaijkiepcaobiaa", sum := "ead236aaf852cafb6d65bca13e03a465c20f86b91346157a1b55a62502065b9c", func := "loop.example/g01083/laws.FnExactCompanionOf", spec := "fnExactCompanionOf", unfollowed := true, recurses := true, apart := false }
def FnExactCompanionOfSaid : Prop := fnExactCompanionOfRow.holds Try.pinned (OpenSpec.ofChange fnExactCompanionOfSpec)

/-- ITS FALSE NEIGHBOUR: 'it returns false'. Refute it at one input. -/
def fnExactCompanionOfWrong : ChangeSpec := { name := "fnExactCompanionOf", fn := fun _ => fun
  | [d] => { results := [.lit (.bool false)], args := [d] }
  | _ => none }
def FnExactCompanionOfWrongFalsely : Prop := fnExactCompanionOfRow.holds Try.pinned (OpenSpec.ofChange fnExactCompanionOfWrong)

/-- 'laws.FnExactConjointOf': WHATEVER THE INPUT: true; the input reads as it did. -/
def fnExactConjointOfSpec : ChangeSpec := { name := "fnExactConjointOf", fn := fun _ => fun
  | [d] => { results := [.lit (.bool true)], args := [d] }
  | _ => none }
def fnExactConjointOfRow : OpenClaim := { program := "ytaijkiepcaobiaa", sum := "ead236aaf852cafb6d65bca13e03a465c20f86b91346157a1b55a62502065b9c", func := "loop.example/g01083/laws.FnExactConjointOf", spec := "fnExactConjointOf", unfollowed := true, recurses := true, apart := false }
def FnExactConjointOfSaid : Prop := fnExactConjointOfRow.holds Try.pinned (OpenSpec.ofChange fnExactConjointOfSpec)

/-- ITS FALSE NEIGHBOUR: 'it returns false'. Refute it at one input. -/
def fnExactConjointOfWrong : ChangeSpec := { name := "fnExactConjointOf", fn := fun _ => fun
  | [d] => { results := [.lit (.bool false)], args := [d] }
  | _ => none }
def FnExactConjointOfWrongFalsely : Prop := fnExactConjointOfRow.holds Try.pinned (OpenSpec.ofChange fnExactConjointOfWrong)

/-- 'laws.FnExactFunctorBefore': WHATEVER THE INPUT: true; the input reads as it did. -/
def fnExactFunctorBeforeSpec : ChangeSpec := { name := "fnExactFunctorBefore", fn := fun _ => fun
  | [d1, d2] => { results := [.lit (.bool true)], args := [d1, d2] }
  | _ => none }
def fnExactFunctorBeforeRow : OpenClaim := { program := "ytaijkiepcaobiaa", sum := "ead236aaf852cafb6d65bca13e03a465c20f86b91346157a1b55a62502065b9c", func := "loop.example/g01083/laws.FnExactFunctorBefore", spec := "fnExactFunctorBefore", unfollowed := true, recurses := true, apart := false }
def FnExactFunctorBeforeSaid : Prop := fnExactFunctorBeforeRow.holds Try.pinned (OpenSpec.ofChange fnExactFunctorBeforeSpec)

/-- ITS FALSE NEIGHBOUR: 'it returns false'. Refute it at one input. -/
def fnExactFunctorBeforeWrong : ChangeSpec := { name := "fnExactFunctorBefore", fn := fun _ => fun
  | [d1, d2] => { results := [.lit (.bool false)], args := [d1, d2] }
  | _ => none }
def FnExactFunctorBeforeWrongFalsely : Prop := fnExactFunctorBeforeRow.holds Try.pinned (OpenSpec.ofChange fnExactFunctorBeforeWrong)

/-- 'laws.FnExactFunctorBehind': WHATEVER THE INPUT: true; the input reads as it did. -/
def fnExactFunctorBehindSpec : ChangeSpec := { name := "fnExactFunctorBehind", fn := fun _ => fun
  | [d1, d2] => { results := [.lit (.bool true)], args := [d1, d2] }
  | _ => none }
def fnExactFunctorBehindRow : OpenClaim := { program := "ytaijkiepcaobiaa", sum := "ead236aaf852cafb6d65bca13e03a465c20f86b91346157a1b55a62502065b9c", func := "loop.example/g01083/laws.FnExactFunctorBehind", spec := "fnExactFunctorBehind", unfollowed := true, recurses := true, apart := false }
def FnExactFunctorBehindSaid : Prop := fnExactFunctorBehindRow.holds Try.pinned (OpenSpec.ofChange fnExactFunctorBehindSpec)

/-- ITS FALSE NEIGHBOUR: 'it returns false'. Refute it at one input. -/
def fnExactFunctorBehindWrong : ChangeSpec := { name := "fnExactFunctorBehind", fn := fun _ => fun
  | [d1, d2] => { results := [.lit (.bool false)], args := [d1, d2] }
  | _ => none }
def FnExactFunctorBehindWrongFalsely : Prop := fnExactFunctorBehindRow.holds Try.pinned (OpenSpec.ofChange fnExactFunctorBehindWrong)

/-- 'laws.FnExactThenTransformations': WHATEVER THE INPUT: true; the input reads as it did. -/
def fnExactThenTransformationsSpec : ChangeSpec := { name := "fnExactThenTransformations", fn := fun _ => fun
  | [d1, d2] => { results := [.lit (.bool true)], args := [d1, d2] }
  | _ => none }
def fnExactThenTransformationsRow : OpenClaim := { program := "ytaijkiepcaobiaa", sum := "ead236aaf852cafb6d65bca13e03a465c20f86b91346157a1b55a62502065b9c", func := "loop.example/g01083/laws.FnExactThenTransformations", spec := "fnExactThenTransformations", unfollowed := true, recurses := true, apart := false }
def FnExactThenTransformationsSaid : Prop := fnExactThenTransformationsRow.holds Try.pinned (OpenSpec.ofChange fnExactThenTransformationsSpec)

/-- ITS FALSE NEIGHBOUR: 'it returns false'. Refute it at one input. -/
def fnExactThenTransformationsWrong : ChangeSpec := { name := "fnExactThenTransformations", fn := fun _ => fun
  | [d1, d2] => { results := [.lit (.bool false)], args := [d1, d2] }
  | _ => none }
def FnExactThenTransformationsWrongFalsely : Prop := fnExactThenTransformationsRow.holds Try.pinned (OpenSpec.ofChange fnExactThenTransformationsWrong)

/- THE SECOND FORM. 'bulk': how many values and letters a reading holds, each counted each time it is reached (what is shared counts as often as it is met; a slice's spare places count too). A statement '..UptoSaid' is the law's where the arguments, and the package variables that the reading takes, are together of bulk at most 1048576: NARROWER than '..Said'. Prove '..Said' where nothing that the law and all that it calls make is longer than what came in: it says more and counts as full. Else prove '..UptoSaid'. A law counts once. -/
mutual
def uptoBulk {H : Type} : DataW H → Nat
  | .lit (.string bytes) => bytes.length + 1
  | .lit _ => 1
  | .nil => 1
  | .ptr d => uptoBulk d + 1
  | .slice elems spare => uptoBulkAll elems + uptoBulkAll spare + 1
  | .agg parts => uptoBulkAll parts + 1
  | .iface _ d => uptoBulk d + 1
  | .map entries => uptoBulkEntries entries + 1
  | .held _ => 1
def uptoBulkAll {H : Type} : List (DataW H) → Nat
  | [] => 0
  | d :: r => uptoBulk d + uptoBulkAll r
def uptoBulkEntries {H : Type} : List (Lit × DataW H) → Nat
  | [] => 0
  | x :: r => uptoBulkEntry x + uptoBulkEntries r
def uptoBulkEntry {H : Type} : Lit × DataW H → Nat
  | (.string bytes, d) => bytes.length + uptoBulk d + 1
  | (_, d) => uptoBulk d + 1
 end
def uptoSmall : (H : Type) → List (DataW H) → Bool := fun _ ds => decide (uptoBulkAll ds ≤ 1048576)
def OpenSpec.upto (s : _root_.Go.ChangeSpec) : _root_.Go.OpenSpec := { _root_.Go.OpenSpec.ofChange s with cond := some uptoSmall }

/-- 'laws.FnExactThenFunctors', WHERE WHAT IT READS IS OF BULK AT MOST 1048576: true; the input reads as it did. -/
def fnExactThenFunctorsUptoRow : OpenClaim := { program := "ytaijkiepcaobiaa", sum := "ead236aaf852cafb6d65bca13e03a465c20f86b91346157a1b55a62502065b9c", func := "loop.example/g01083/laws.FnExactThenFunctors", spec := "fnExactThenFunctors", apart := false, narrowed := true }
def FnExactThenFunctorsUptoSaid : Prop := fnExactThenFunctorsUptoRow.holds Try.pinned (OpenSpec.upto fnExactThenFunctorsSpec)

/-- 'laws.FnExactProductFunctor', WHERE WHAT IT READS IS OF BULK AT MOST 1048576: true; the input reads as it did. -/
def fnExactProductFunctorUptoRow : OpenClaim := { program := "ytaijkiepcaobiaa", sum := "ead236aaf852cafb6d65bca13e03a465c20f86b91346157a1b55a62502065b9c", func := "loop.example/g01083/laws.FnExactProductFunctor", spec := "fnExactProductFunctor", unfollowed := true, recurses := true, apart := false, narrowed := true }
def FnExactProductFunctorUptoSaid : Prop := fnExactProductFunctorUptoRow.holds Try.pinned (OpenSpec.upto fnExactProductFunctorSpec)

/-- 'laws.FnExactNaturalProfunctor', WHERE WHAT IT READS IS OF BULK AT MOST 1048576: true; the input reads as it did. -/
def fnExactNaturalProfunctorUptoRow : OpenClaim := { program := "ytaijkiepcaobiaa", sum := "ead236aaf852cafb6d65bca13e03a465c20f86b91346157a1b55a62502065b9c", func := "loop.example/g01083/laws.FnExactNaturalProfunctor", spec := "fnExactNaturalProfunctor", unfollowed := true, recurses := true, apart := false, narrowed := true }
def FnExactNaturalProfunctorUptoSaid : Prop := fnExactNaturalProfunctorUptoRow.holds Try.pinned (OpenSpec.upto fnExactNaturalProfunctorSpec)

/-- 'laws.FnExactFixSecond', WHERE WHAT IT READS IS OF BULK AT MOST 1048576: true; the input reads as it did. -/
def fnExactFixSecondUptoRow : OpenClaim := { program := "ytaijkiepcaobiaa", sum := "ead236aaf852cafb6d65bca13e03a465c20f86b91346157a1b55a62502065b9c", func := "loop.example/g01083/laws.FnExactFixSecond", spec := "fnExactFixSecond", unfollowed := true, recurses := true, apart := false, narrowed := true }
def FnExactFixSecondUptoSaid : Prop := fnExactFixSecondUptoRow.holds Try.pinned (OpenSpec.upto fnExactFixSecondSpec)

/-- 'laws.FnExactSumSets', WHERE WHAT IT READS IS OF BULK AT MOST 1048576: true; the input reads as it did. -/
def fnExactSumSetsUptoRow : OpenClaim := { program := "ytaijkiepcaobiaa", sum := "ead236aaf852cafb6d65bca13e03a465c20f86b91346157a1b55a62502065b9c", func := "loop.example/g01083/laws.FnExactSumSets", spec := "fnExactSumSets", apart := false, narrowed := true }
def FnExactSumSetsUptoSaid : Prop := fnExactSumSetsUptoRow.holds Try.pinned (OpenSpec.upto fnExactSumSetsSpec)

/-- 'laws.FnExactPairFunctors', WHERE WHAT IT READS IS OF BULK AT MOST 1048576: true; the input reads as it did. -/
def fnExactPairFunctorsUptoRow : OpenClaim := { program := "ytaijkiepcaobiaa", sum := "ead236aaf852cafb6d65bca13e03a465c20f86b91346157a1b55a62502065b9c", func := "loop.example/g01083/laws.FnExactPairFunctors", spec := "fnExactPairFunctors", unfollowed := true, recurses := true, apart := false, narrowed := true }
def FnExactPairFunctorsUptoSaid : Prop := fnExactPairFunctorsUptoRow.holds Try.pinned (OpenSpec.upto fnExactPairFunctorsSpec)

/-- 'laws.FnExactFixFirst', WHERE WHAT IT READS IS OF BULK AT MOST 1048576: true; the input reads as it did. -/
def fnExactFixFirstUptoRow : OpenClaim := { program := "ytaijkiepcaobiaa", sum := "ead236aaf852cafb6d65bca13e03a465c20f86b91346157a1b55a62502065b9c", func := "loop.example/g01083/laws.FnExactFixFirst", spec := "fnExactFixFirst", unfollowed := true, recurses := true, apart := false, narrowed := true }
def FnExactFixFirstUptoSaid : Prop := fnExactFixFirstUptoRow.holds Try.pinned (OpenSpec.upto fnExactFixFirstSpec)

/-- 'laws.FnExactCompanionOf', WHERE WHAT IT READS IS OF BULK AT MOST 1048576: true; the input reads as it did. -/
def fnExactCompanionOfUptoRow : OpenClaim := { program := "ytaijkiepcaobiaa", sum := "ead236aaf852cafb6d65bca13e03a465c20f86b91346157a1b55a62502065b9c", func := "loop.example/g01083/laws.FnExactCompanionOf", spec := "fnExactCompanionOf", unfollowed := true, recurses := true, apart := false, narrowed := true }
def FnExactCompanionOfUptoSaid : Prop := fnExactCompanionOfUptoRow.holds Try.pinned (OpenSpec.upto fnExactCompanionOfSpec)

/-- 'laws.FnExactConjointOf', WHERE WHAT IT READS IS OF BULK AT MOST 1048576: true; the input reads as it did. -/
def fnExactConjointOfUptoRow : OpenClaim := { program := "ytaijkiepcaobiaa", sum := "ead236aaf852cafb6d65bca13e03a465c20f86b91346157a1b55a62502065b9c", func := "loop.example/g01083/laws.FnExactConjointOf", spec := "fnExactConjointOf", unfollowed := true, recurses := true, apart := false, narrowed := true }
def FnExactConjointOfUptoSaid : Prop := fnExactConjointOfUptoRow.holds Try.pinned (OpenSpec.upto fnExactConjointOfSpec)

/-- 'laws.FnExactFunctorBefore', WHERE WHAT IT READS IS OF BULK AT MOST 1048576: true; the input reads as it did. -/
def fnExactFunctorBeforeUptoRow : OpenClaim := { program := "ytaijkiepcaobiaa", sum := "ead236aaf852cafb6d65bca13e03a465c20f86b91346157a1b55a62502065b9c", func := "loop.example/g01083/laws.FnExactFunctorBefore", spec := "fnExactFunctorBefore", unfollowed := true, recurses := true, apart := false, narrowed := true }
def FnExactFunctorBeforeUptoSaid : Prop := fnExactFunctorBeforeUptoRow.holds Try.pinned (OpenSpec.upto fnExactFunctorBeforeSpec)

/-- 'laws.FnExactFunctorBehind', WHERE WHAT IT READS IS OF BULK AT MOST 1048576: true; the input reads as it did. -/
def fnExactFunctorBehindUptoRow : OpenClaim := { program := "ytaijkiepcaobiaa", sum := "ead236aaf852cafb6d65bca13e03a465c20f86b91346157a1b55a62502065b9c", func := "loop.example/g01083/laws.FnExactFunctorBehind", spec := "fnExactFunctorBehind", unfollowed := true, recurses := true, apart := false, narrowed := true }
def FnExactFunctorBehindUptoSaid : Prop := fnExactFunctorBehindUptoRow.holds Try.pinned (OpenSpec.upto fnExactFunctorBehindSpec)

/-- 'laws.FnExactThenTransformations', WHERE WHAT IT READS IS OF BULK AT MOST 1048576: true; the input reads as it did. -/
def fnExactThenTransformationsUptoRow : OpenClaim := { program := "ytaijkiepcaobiaa", sum := "ead236aaf852cafb6d65bca13e03a465c20f86b91346157a1b55a62502065b9c", func := "loop.example/g01083/laws.FnExactThenTransformations", spec := "fnExactThenTransformations", unfollowed := true, recurses := true, apart := false, narrowed := true }
def FnExactThenTransformationsUptoSaid : Prop := fnExactThenTransformationsUptoRow.holds Try.pinned (OpenSpec.upto fnExactThenTransformationsSpec)

end Rows
end Go.Proofs.Ytaijkiepcaobiaa
