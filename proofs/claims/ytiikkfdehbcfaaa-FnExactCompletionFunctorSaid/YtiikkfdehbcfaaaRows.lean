/-
  No cell of these rows narrows 'for every input' (looked for: loops, veiled, ifaces, maps, wideKeys, modest, calm, conditions, laid).
  DERIVED. THE GIVEN ROWS OF THIS SEAT. 12 by the template 'for every input the law returns true; each argument reads behind the call as it read before'; 0 by the template 'total and deterministic' (their statements: YtiikkfdehbcfaaaTotals.lean).
  GIVEN WITH THE SEED: the statements are not yours to turn. If you find one false, say at which input.
  Laid BY PROGRAM, IN A SANDBOX (cutbox-rows.mjs): the forced cells as the released guide's own fill.sh prints them over the translation ac501e1657eebc91… (all of the seat's roots in one cut). By AI agents, Wed Nov 11 2026. No macro, syntax, notation, axiom, sorry.
-/
import Derived.Test.YtiikkfdehbcfaaaChecked
import GoSem.Claim
import GoSem.ClaimJoined
import GoSem.ClaimMapViews
import Derived.JoinedTies
import Derived.KernelRfl
namespace Go.Proofs.Ytiikkfdehbcfaaa
/- THE CELL 'sum', in the pinned program and in every row, IS THE sha256 OF THE DUMP (.gsa) THAT YtiikkfdehbcfaaaProg.lean LOADS. Nothing in Lean hashes anything: it is a label: what it is worth is what the hold of that sum in a sandbox is worth. -/
noncomputable def Try.pinned : Pinned := { name := "ytiikkfdehbcfaaa", sum := "ac501e1657eebc917280c1c9585b6f4b5e7f5bd0a261dc8bf83e33615518c74b", checked := Try.checked }
namespace Rows
def none {H : Type} : Left H := { results := [], args := [] }

/-- 'laws.FnExactIsCocone': WHATEVER THE INPUT: true; the input reads as it did. -/
def fnExactIsCoconeSpec : ChangeSpec := { name := "fnExactIsCocone", fn := fun _ => fun
  | [d1, d2] => { results := [.lit (.bool true)], args := [d1, d2] }
  | _ => none }
def fnExactIsCoconeRow : OpenClaim := { program := "ytiikkfdehbcfaaa", sum := "ac501e1657eebc917280c1c9585b6f4b5e7f5bd0a261dc8bf83e33615518c74b", func := "loop.example/g01083/laws.FnExactIsCocone", spec := "fnExactIsCocone", unfollowed := true, recurses := true, plainKeys := false, apart := false }
def FnExactIsCoconeSaid : Prop := fnExactIsCoconeRow.holds Try.pinned (OpenSpec.ofChange fnExactIsCoconeSpec)

/-- ITS FALSE NEIGHBOUR: 'it returns false'. Refute it at one input. -/
def fnExactIsCoconeWrong : ChangeSpec := { name := "fnExactIsCocone", fn := fun _ => fun
  | [d1, d2] => { results := [.lit (.bool false)], args := [d1, d2] }
  | _ => none }
def FnExactIsCoconeWrongFalsely : Prop := fnExactIsCoconeRow.holds Try.pinned (OpenSpec.ofChange fnExactIsCoconeWrong)

/-- 'laws.FnExactApplyChanges': WHATEVER THE INPUT: true; the input reads as it did. -/
def fnExactApplyChangesSpec : ChangeSpec := { name := "fnExactApplyChanges", fn := fun _ => fun
  | [d1, d2, d3, d4] => { results := [.lit (.bool true)], args := [d1, d2, d3, d4] }
  | _ => none }
def fnExactApplyChangesRow : OpenClaim := { program := "ytiikkfdehbcfaaa", sum := "ac501e1657eebc917280c1c9585b6f4b5e7f5bd0a261dc8bf83e33615518c74b", func := "loop.example/g01083/laws.FnExactApplyChanges", spec := "fnExactApplyChanges", plainKeys := false, apart := false }
def FnExactApplyChangesSaid : Prop := fnExactApplyChangesRow.holds Try.pinned (OpenSpec.ofChange fnExactApplyChangesSpec)

/-- ITS FALSE NEIGHBOUR: 'it returns false'. Refute it at one input. -/
def fnExactApplyChangesWrong : ChangeSpec := { name := "fnExactApplyChanges", fn := fun _ => fun
  | [d1, d2, d3, d4] => { results := [.lit (.bool false)], args := [d1, d2, d3, d4] }
  | _ => none }
def FnExactApplyChangesWrongFalsely : Prop := fnExactApplyChangesRow.holds Try.pinned (OpenSpec.ofChange fnExactApplyChangesWrong)

/-- 'laws.FnExactInclusionFunctor': WHATEVER THE INPUT: true; the input reads as it did. -/
def fnExactInclusionFunctorSpec : ChangeSpec := { name := "fnExactInclusionFunctor", fn := fun _ => fun
  | [d1, d2] => { results := [.lit (.bool true)], args := [d1, d2] }
  | _ => none }
def fnExactInclusionFunctorRow : OpenClaim := { program := "ytiikkfdehbcfaaa", sum := "ac501e1657eebc917280c1c9585b6f4b5e7f5bd0a261dc8bf83e33615518c74b", func := "loop.example/g01083/laws.FnExactInclusionFunctor", spec := "fnExactInclusionFunctor", plainKeys := false, apart := false }
def FnExactInclusionFunctorSaid : Prop := fnExactInclusionFunctorRow.holds Try.pinned (OpenSpec.ofChange fnExactInclusionFunctorSpec)

/-- ITS FALSE NEIGHBOUR: 'it returns false'. Refute it at one input. -/
def fnExactInclusionFunctorWrong : ChangeSpec := { name := "fnExactInclusionFunctor", fn := fun _ => fun
  | [d1, d2] => { results := [.lit (.bool false)], args := [d1, d2] }
  | _ => none }
def FnExactInclusionFunctorWrongFalsely : Prop := fnExactInclusionFunctorRow.holds Try.pinned (OpenSpec.ofChange fnExactInclusionFunctorWrong)

/-- 'laws.FnExactSkeletonFunctor': WHATEVER THE INPUT: true; the input reads as it did. -/
def fnExactSkeletonFunctorSpec : ChangeSpec := { name := "fnExactSkeletonFunctor", fn := fun _ => fun
  | [d] => { results := [.lit (.bool true)], args := [d] }
  | _ => none }
def fnExactSkeletonFunctorRow : OpenClaim := { program := "ytiikkfdehbcfaaa", sum := "ac501e1657eebc917280c1c9585b6f4b5e7f5bd0a261dc8bf83e33615518c74b", func := "loop.example/g01083/laws.FnExactSkeletonFunctor", spec := "fnExactSkeletonFunctor", plainKeys := false, apart := false }
def FnExactSkeletonFunctorSaid : Prop := fnExactSkeletonFunctorRow.holds Try.pinned (OpenSpec.ofChange fnExactSkeletonFunctorSpec)

/-- ITS FALSE NEIGHBOUR: 'it returns false'. Refute it at one input. -/
def fnExactSkeletonFunctorWrong : ChangeSpec := { name := "fnExactSkeletonFunctor", fn := fun _ => fun
  | [d] => { results := [.lit (.bool false)], args := [d] }
  | _ => none }
def FnExactSkeletonFunctorWrongFalsely : Prop := fnExactSkeletonFunctorRow.holds Try.pinned (OpenSpec.ofChange fnExactSkeletonFunctorWrong)

/-- 'laws.FnExactCompletionFunctor': WHATEVER THE INPUT: true; the input reads as it did. -/
def fnExactCompletionFunctorSpec : ChangeSpec := { name := "fnExactCompletionFunctor", fn := fun _ => fun
  | [d] => { results := [.lit (.bool true)], args := [d] }
  | _ => none }
def fnExactCompletionFunctorRow : OpenClaim := { program := "ytiikkfdehbcfaaa", sum := "ac501e1657eebc917280c1c9585b6f4b5e7f5bd0a261dc8bf83e33615518c74b", func := "loop.example/g01083/laws.FnExactCompletionFunctor", spec := "fnExactCompletionFunctor", unfollowed := true, recurses := true, plainKeys := false, apart := false }
def FnExactCompletionFunctorSaid : Prop := fnExactCompletionFunctorRow.holds Try.pinned (OpenSpec.ofChange fnExactCompletionFunctorSpec)

/-- ITS FALSE NEIGHBOUR: 'it returns false'. Refute it at one input. -/
def fnExactCompletionFunctorWrong : ChangeSpec := { name := "fnExactCompletionFunctor", fn := fun _ => fun
  | [d] => { results := [.lit (.bool false)], args := [d] }
  | _ => none }
def FnExactCompletionFunctorWrongFalsely : Prop := fnExactCompletionFunctorRow.holds Try.pinned (OpenSpec.ofChange fnExactCompletionFunctorWrong)

/-- 'laws.FnExactQuotientFunctor': WHATEVER THE INPUT: true; the input reads as it did. -/
def fnExactQuotientFunctorSpec : ChangeSpec := { name := "fnExactQuotientFunctor", fn := fun _ => fun
  | [d1, d2] => { results := [.lit (.bool true)], args := [d1, d2] }
  | _ => none }
def fnExactQuotientFunctorRow : OpenClaim := { program := "ytiikkfdehbcfaaa", sum := "ac501e1657eebc917280c1c9585b6f4b5e7f5bd0a261dc8bf83e33615518c74b", func := "loop.example/g01083/laws.FnExactQuotientFunctor", spec := "fnExactQuotientFunctor", unfollowed := true, recurses := true, plainKeys := false, apart := false }
def FnExactQuotientFunctorSaid : Prop := fnExactQuotientFunctorRow.holds Try.pinned (OpenSpec.ofChange fnExactQuotientFunctorSpec)

/-- ITS FALSE NEIGHBOUR: 'it returns false'. Refute it at one input. -/
def fnExactQuotientFunctorWrong : ChangeSpec := { name := "fnExactQuotientFunctor", fn := fun _ => fun
  | [d1, d2] => { results := [.lit (.bool false)], args := [d1, d2] }
  | _ => none }
def FnExactQuotientFunctorWrongFalsely : Prop := fnExactQuotientFunctorRow.holds Try.pinned (OpenSpec.ofChange fnExactQuotientFunctorWrong)

/-- 'laws.FnExactCoconeMaps': WHATEVER THE INPUT: true; the input reads as it did. -/
def fnExactCoconeMapsSpec : ChangeSpec := { name := "fnExactCoconeMaps", fn := fun _ => fun
  | [d1, d2, d3] => { results := [.lit (.bool true)], args := [d1, d2, d3] }
  | _ => none }
def fnExactCoconeMapsRow : OpenClaim := { program := "ytiikkfdehbcfaaa", sum := "ac501e1657eebc917280c1c9585b6f4b5e7f5bd0a261dc8bf83e33615518c74b", func := "loop.example/g01083/laws.FnExactCoconeMaps", spec := "fnExactCoconeMaps", unfollowed := true, recurses := true, plainKeys := false, apart := false }
def FnExactCoconeMapsSaid : Prop := fnExactCoconeMapsRow.holds Try.pinned (OpenSpec.ofChange fnExactCoconeMapsSpec)

/-- ITS FALSE NEIGHBOUR: 'it returns false'. Refute it at one input. -/
def fnExactCoconeMapsWrong : ChangeSpec := { name := "fnExactCoconeMaps", fn := fun _ => fun
  | [d1, d2, d3] => { results := [.lit (.bool false)], args := [d1, d2, d3] }
  | _ => none }
def FnExactCoconeMapsWrongFalsely : Prop := fnExactCoconeMapsRow.holds Try.pinned (OpenSpec.ofChange fnExactCoconeMapsWrong)

/-- 'laws.FnExactCompletionOfFunctor': WHATEVER THE INPUT: true; the input reads as it did. -/
def fnExactCompletionOfFunctorSpec : ChangeSpec := { name := "fnExactCompletionOfFunctor", fn := fun _ => fun
  | [d] => { results := [.lit (.bool true)], args := [d] }
  | _ => none }
def fnExactCompletionOfFunctorRow : OpenClaim := { program := "ytiikkfdehbcfaaa", sum := "ac501e1657eebc917280c1c9585b6f4b5e7f5bd0a261dc8bf83e33615518c74b", func := "loop.example/g01083/laws.FnExactCompletionOfFunctor", spec := "fnExactCompletionOfFunctor", unfollowed := true, recurses := true, plainKeys := false, apart := false }
def FnExactCompletionOfFunctorSaid : Prop := fnExactCompletionOfFunctorRow.holds Try.pinned (OpenSpec.ofChange fnExactCompletionOfFunctorSpec)

/-- ITS FALSE NEIGHBOUR: 'it returns false'. Refute it at one input. -/
def fnExactCompletionOfFunctorWrong : ChangeSpec := { name := "fnExactCompletionOfFunctor", fn := fun _ => fun
  | [d] => { results := [.lit (.bool false)], args := [d] }
  | _ => none }
def FnExactCompletionOfFunctorWrongFalsely : Prop := fnExactCompletionOfFunctorRow.holds Try.pinned (OpenSpec.ofChange fnExactCompletionOfFunctorWrong)

/-- 'laws.FnExactIsInitial': WHATEVER THE INPUT: true; the input reads as it did. -/
def fnExactIsInitialSpec : ChangeSpec := { name := "fnExactIsInitial", fn := fun _ => fun
  | [d] => { results := [.lit (.bool true)], args := [d] }
  | _ => none }
def fnExactIsInitialRow : OpenClaim := { program := "ytiikkfdehbcfaaa", sum := "ac501e1657eebc917280c1c9585b6f4b5e7f5bd0a261dc8bf83e33615518c74b", func := "loop.example/g01083/laws.FnExactIsInitial", spec := "fnExactIsInitial", unfollowed := true, recurses := true, plainKeys := false, apart := false }
def FnExactIsInitialSaid : Prop := fnExactIsInitialRow.holds Try.pinned (OpenSpec.ofChange fnExactIsInitialSpec)

/-- ITS FALSE NEIGHBOUR: 'it returns false'. Refute it at one input. -/
def fnExactIsInitialWrong : ChangeSpec := { name := "fnExactIsInitial", fn := fun _ => fun
  | [d] => { results := [.lit (.bool false)], args := [d] }
  | _ => none }
def FnExactIsInitialWrongFalsely : Prop := fnExactIsInitialRow.holds Try.pinned (OpenSpec.ofChange fnExactIsInitialWrong)

/-- 'laws.FnExactElementsProjection': WHATEVER THE INPUT: true; the input reads as it did. -/
def fnExactElementsProjectionSpec : ChangeSpec := { name := "fnExactElementsProjection", fn := fun _ => fun
  | [d] => { results := [.lit (.bool true)], args := [d] }
  | _ => none }
def fnExactElementsProjectionRow : OpenClaim := { program := "ytiikkfdehbcfaaa", sum := "ac501e1657eebc917280c1c9585b6f4b5e7f5bd0a261dc8bf83e33615518c74b", func := "loop.example/g01083/laws.FnExactElementsProjection", spec := "fnExactElementsProjection", unfollowed := true, recurses := true, plainKeys := false, apart := false }
def FnExactElementsProjectionSaid : Prop := fnExactElementsProjectionRow.holds Try.pinned (OpenSpec.ofChange fnExactElementsProjectionSpec)

/-- ITS FALSE NEIGHBOUR: 'it returns false'. Refute it at one input. -/
def fnExactElementsProjectionWrong : ChangeSpec := { name := "fnExactElementsProjection", fn := fun _ => fun
  | [d] => { results := [.lit (.bool false)], args := [d] }
  | _ => none }
def FnExactElementsProjectionWrongFalsely : Prop := fnExactElementsProjectionRow.holds Try.pinned (OpenSpec.ofChange fnExactElementsProjectionWrong)

/-- 'laws.FnExactIsImplied': WHATEVER THE INPUT: true; the input reads as it did. -/
def fnExactIsImpliedSpec : ChangeSpec := { name := "fnExactIsImplied", fn := fun _ => fun
  | [d1, d2, d3, d4] => { results := [.lit (.bool true)], args := [d1, d2, d3, d4] }
  | _ => none }
def fnExactIsImpliedRow : OpenClaim := { program := "ytiikkfdehbcfaaa", sum := "ac501e1657eebc917280c1c9585b6f4b5e7f5bd0a261dc8bf83e33615518c74b", func := "loop.example/g01083/laws.FnExactIsImplied", spec := "fnExactIsImplied", plainKeys := false, apart := false }
def FnExactIsImpliedSaid : Prop := fnExactIsImpliedRow.holds Try.pinned (OpenSpec.ofChange fnExactIsImpliedSpec)

/-- ITS FALSE NEIGHBOUR: 'it returns false'. Refute it at one input. -/
def fnExactIsImpliedWrong : ChangeSpec := { name := "fnExactIsImplied", fn := fun _ => fun
  | [d1, d2, d3, d4] => { results := [.lit (.bool false)], args := [d1, d2, d3, d4] }
  | _ => none }
def FnExactIsImpliedWrongFalsely : Prop := fnExactIsImpliedRow.holds Try.pinned (OpenSpec.ofChange fnExactIsImpliedWrong)

/-- 'laws.FnExactQuasiInverse': WHATEVER THE INPUT: true; the input reads as it did. -/
def fnExactQuasiInverseSpec : ChangeSpec := { name := "fnExactQuasiInverse", fn := fun _ => fun
  | [d] => { results := [.lit (.bool true)], args := [d] }
  | _ => none }
def fnExactQuasiInverseRow : OpenClaim := { program := "ytiikkfdehbcfaaa", sum := "ac501e1657eebc917280c1c9585b6f4b5e7f5bd0a261dc8bf83e33615518c74b", func := "loop.example/g01083/laws.FnExactQuasiInverse", spec := "fnExactQuasiInverse", plainKeys := false, apart := false }
def FnExactQuasiInverseSaid : Prop := fnExactQuasiInverseRow.holds Try.pinned (OpenSpec.ofChange fnExactQuasiInverseSpec)

/-- ITS FALSE NEIGHBOUR: 'it returns false'. Refute it at one input. -/
def fnExactQuasiInverseWrong : ChangeSpec := { name := "fnExactQuasiInverse", fn := fun _ => fun
  | [d] => { results := [.lit (.bool false)], args := [d] }
  | _ => none }
def FnExactQuasiInverseWrongFalsely : Prop := fnExactQuasiInverseRow.holds Try.pinned (OpenSpec.ofChange fnExactQuasiInverseWrong)

/- THE SECOND FORM. 'bulk': how many values and letters a reading holds, each counted each time it is reached (what is shared counts as often as it is met; a slice's spare places count too). A statement '..UptoSaid' is the law's where the arguments, and the package variables that the reading takes, are together of bulk at most 1048576: NARROWER than '..Said'. Prove '..Said' where nothing that the law and all that it calls make is longer than what came in: it says more and counts as full. Else prove '..UptoSaid'. A law counts once. -/
mutual
def uptoBulk {H : Type} : DataW H → Nat
  | .lit (.string bytes) => bytes.length + 1
  | .lit _ => 1
  | .nil => 1
  | .ptr d => uptoBulk d + 1
  | .slice elems spare => uptoBulkAll elems + uptoBulkAll spare + 1
  | .agg parts => uptoBulkAll parts + 1
  | .iface _ d => uptoBulk d + 1
  | .map entries => uptoBulkEntries entries + 1
  | .held _ => 1
def uptoBulkAll {H : Type} : List (DataW H) → Nat
  | [] => 0
  | d :: r => uptoBulk d + uptoBulkAll r
def uptoBulkEntries {H : Type} : List (Lit × DataW H) → Nat
  | [] => 0
  | x :: r => uptoBulkEntry x + uptoBulkEntries r
def uptoBulkEntry {H : Type} : Lit × DataW H → Nat
  | (.string bytes, d) => bytes.length + uptoBulk d + 1
  | (_, d) => uptoBulk d + 1
 end
def uptoSmall : (H : Type) → List (DataW H) → Bool := fun _ ds => decide (uptoBulkAll ds ≤ 1048576)
def OpenSpec.upto (s : _root_.Go.ChangeSpec) : _root_.Go.OpenSpec := { _root_.Go.OpenSpec.ofChange s with cond := some uptoSmall }

/-- 'laws.FnExactIsCocone', WHERE WHAT IT READS IS OF BULK AT MOST 1048576: true; the input reads as it did. -/
def fnExactIsCoconeUptoRow : OpenClaim := { program := "ytiikkfdehbcfaaa", sum := "ac501e1657eebc917280c1c9585b6f4b5e7f5bd0a261dc8bf83e33615518c74b", func := "loop.example/g01083/laws.FnExactIsCocone", spec := "fnExactIsCocone", unfollowed := true, recurses := true, plainKeys := false, apart := false, narrowed := true }
def FnExactIsCoconeUptoSaid : Prop := fnExactIsCoconeUptoRow.holds Try.pinned (OpenSpec.upto fnExactIsCoconeSpec)

/-- 'laws.FnExactApplyChanges', WHERE WHAT IT READS IS OF BULK AT MOST 1048576: true; the input reads as it did. -/
def fnExactApplyChangesUptoRow : OpenClaim := { program := "ytiikkfdehbcfaaa", sum := "ac501e1657eebc917280c1c9585b6f4b5e7f5bd0a261dc8bf83e33615518c74b", func := "loop.example/g01083/laws.FnExactApplyChanges", spec := "fnExactApplyChanges", plainKeys := false, apart := false, narrowed := true }
def FnExactApplyChangesUptoSaid : Prop := fnExactApplyChangesUptoRow.holds Try.pinned (OpenSpec.upto fnExactApplyChangesSpec)

/-- 'laws.FnExactInclusionFunctor', WHERE WHAT IT READS IS OF BULK AT MOST 1048576: true; the input reads as it did. -/
def fnExactInclusionFunctorUptoRow : OpenClaim := { program := "ytiikkfdehbcfaaa", sum := "ac501e1657eebc917280c1c9585b6f4b5e7f5bd0a261dc8bf83e33615518c74b", func := "loop.example/g01083/laws.FnExactInclusionFunctor", spec := "fnExactInclusionFunctor", plainKeys := false, apart := false, narrowed := true }
def FnExactInclusionFunctorUptoSaid : Prop := fnExactInclusionFunctorUptoRow.holds Try.pinned (OpenSpec.upto fnExactInclusionFunctorSpec)

/-- 'laws.FnExactSkeletonFunctor', WHERE WHAT IT READS IS OF BULK AT MOST 1048576: true; the input reads as it did. -/
def fnExactSkeletonFunctorUptoRow : OpenClaim := { program := "ytiikkfdehbcfaaa", sum := "ac501e1657eebc917280c1c9585b6f4b5e7f5bd0a261dc8bf83e33615518c74b", func := "loop.example/g01083/laws.FnExactSkeletonFunctor", spec := "fnExactSkeletonFunctor", plainKeys := false, apart := false, narrowed := true }
def FnExactSkeletonFunctorUptoSaid : Prop := fnExactSkeletonFunctorUptoRow.holds Try.pinned (OpenSpec.upto fnExactSkeletonFunctorSpec)

/-- 'laws.FnExactCompletionFunctor', WHERE WHAT IT READS IS OF BULK AT MOST 1048576: true; the input reads as it did. -/
def fnExactCompletionFunctorUptoRow : OpenClaim := { program := "ytiikkfdehbcfaaa", sum := "ac501e1657eebc917280c1c9585b6f4b5e7f5bd0a261dc8bf83e33615518c74b", func := "loop.example/g01083/laws.FnExactCompletionFunctor", spec := "fnExactCompletionFunctor", unfollowed := true, recurses := true, plainKeys := false, apart := false, narrowed := true }
def FnExactCompletionFunctorUptoSaid : Prop := fnExactCompletionFunctorUptoRow.holds Try.pinned (OpenSpec.upto fnExactCompletionFunctorSpec)

/-- 'laws.FnExactQuotientFunctor', WHERE WHAT IT READS IS OF BULK AT MOST 1048576: true; the input reads as it did. -/
def fnExactQuotientFunctorUptoRow : OpenClaim := { program := "ytiikkfdehbcfaaa", sum := "ac501e1657eebc917280c1c9585b6f4b5e7f5bd0a261dc8bf83e33615518c74b", func := "loop.example/g01083/laws.FnExactQuotientFunctor", spec := "fnExactQuotientFunctor", unfollowed := true, recurses := true, plainKeys := false, apart := false, narrowed := true }
def FnExactQuotientFunctorUptoSaid : Prop := fnExactQuotientFunctorUptoRow.holds Try.pinned (OpenSpec.upto fnExactQuotientFunctorSpec)

/-- 'laws.FnExactCoconeMaps', WHERE WHAT IT READS IS OF BULK AT MOST 1048576: true; the input reads as it did. -/
def fnExactCoconeMapsUptoRow : OpenClaim := { program := "ytiikkfdehbcfaaa", sum := "ac501e1657eebc917280c1c9585b6f4b5e7f5bd0a261dc8bf83e33615518c74b", func := "loop.example/g01083/laws.FnExactCoconeMaps", spec := "fnExactCoconeMaps", unfollowed := true, recurses := true, plainKeys := false, apart := false, narrowed := true }
def FnExactCoconeMapsUptoSaid : Prop := fnExactCoconeMapsUptoRow.holds Try.pinned (OpenSpec.upto fnExactCoconeMapsSpec)

/-- 'laws.FnExactCompletionOfFunctor', WHERE WHAT IT READS IS OF BULK AT MOST 1048576: true; the input reads as it did. -/
def fnExactCompletionOfFunctorUptoRow : OpenClaim := { program := "ytiikkfdehbcfaaa", sum := "ac501e1657eebc917280c1c9585b6f4b5e7f5bd0a261dc8bf83e33615518c74b", func := "loop.example/g01083/laws.FnExactCompletionOfFunctor", spec := "fnExactCompletionOfFunctor", unfollowed := true, recurses := true, plainKeys := false, apart := false, narrowed := true }
def FnExactCompletionOfFunctorUptoSaid : Prop := fnExactCompletionOfFunctorUptoRow.holds Try.pinned (OpenSpec.upto fnExactCompletionOfFunctorSpec)

/-- 'laws.FnExactIsInitial', WHERE WHAT IT READS IS OF BULK AT MOST 1048576: true; the input reads as it did. -/
def fnExactIsInitialUptoRow : OpenClaim := { program := "ytiikkfdehbcfaaa", sum := "ac501e1657eebc917280c1c9585b6f4b5e7f5bd0a261dc8bf83e33615518c74b", func := "loop.example/g01083/laws.FnExactIsInitial", spec := "fnExactIsInitial", unfollowed := true, recurses := true, plainKeys := false, apart := false, narrowed := true }
def FnExactIsInitialUptoSaid : Prop := fnExactIsInitialUptoRow.holds Try.pinned (OpenSpec.upto fnExactIsInitialSpec)

/-- 'laws.FnExactElementsProjection', WHERE WHAT IT READS IS OF BULK AT MOST 1048576: true; the input reads as it did. -/
def fnExactElementsProjectionUptoRow : OpenClaim := { program := "ytiikkfdehbcfaaa", sum := "ac501e1657eebc917280c1c9585b6f4b5e7f5bd0a261dc8bf83e33615518c74b", func := "loop.example/g01083/laws.FnExactElementsProjection", spec := "fnExactElementsProjection", unfollowed := true, recurses := true, plainKeys := false, apart := false, narrowed := true }
def FnExactElementsProjectionUptoSaid : Prop := fnExactElementsProjectionUptoRow.holds Try.pinned (OpenSpec.upto fnExactElementsProjectionSpec)

/-- 'laws.FnExactIsImplied', WHERE WHAT IT READS IS OF BULK AT MOST 1048576: true; the input reads as it did. -/
def fnExactIsImpliedUptoRow : OpenClaim := { program := "ytiikkfdehbcfaaa", sum := "ac501e1657eebc917280c1c9585b6f4b5e7f5bd0a261dc8bf83e33615518c74b", func := "loop.example/g01083/laws.FnExactIsImplied", spec := "fnExactIsImplied", plainKeys := false, apart := false, narrowed := true }
def FnExactIsImpliedUptoSaid : Prop := fnExactIsImpliedUptoRow.holds Try.pinned (OpenSpec.upto fnExactIsImpliedSpec)

/-- 'laws.FnExactQuasiInverse', WHERE WHAT IT READS IS OF BULK AT MOST 1048576: true; the input reads as it did. -/
def fnExactQuasiInverseUptoRow : OpenClaim := { program := "ytiikkfdehbcfaaa", sum := "ac501e1657eebc917280c1c9585b6f4b5e7f5bd0a261dc8bf83e33615518c74b", func := "loop.example/g01083/laws.FnExactQuasiInverse", spec := "fnExactQuasiInverse", plainKeys := false, apart := false, narrowed := true }
def FnExactQuasiInverseUptoSaid : Prop := fnExactQuasiInverseUptoRow.holds Try.pinned (OpenSpec.upto fnExactQuasiInverseSpec)

end Rows
end Go.Proofs.Ytiikkfdehbcfaaa
