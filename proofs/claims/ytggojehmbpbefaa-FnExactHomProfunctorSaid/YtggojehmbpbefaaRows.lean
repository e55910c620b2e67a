/-
  No cell of these rows narrows 'for every input' (looked for: loops, veiled, ifaces, maps, wideKeys, modest, calm, conditions, laid).
  DERIVED. THE GIVEN ROWS OF THIS SEAT. 11 by the template 'for every input the law returns true; each argument reads behind the call as it read before'; 0 by the template 'total and deterministic' (their statements: YtggojehmbpbefaaTotals.lean).
  GIVEN WITH THE SEED: the statements are not yours to turn. If you find one false, say at which input.
  Laid BY PROGRAM, IN A SANDBOX (cutbox-rows.mjs): the forced cells as the released guide's own fill.sh prints them over the translation ff6f90b7945bdd64… (all of the seat's roots in one cut). By AI agents, Wed Nov 11 2026. No macro, syntax, notation, axiom, sorry.
-/
import Derived.Test.YtggojehmbpbefaaChecked
import GoSem.Claim
import GoSem.ClaimJoined
import GoSem.ClaimMapViews
import Derived.JoinedTies
import Derived.KernelRfl
namespace Go.Proofs.Ytggojehmbpbefaa
/- THE CELL 'sum', in the pinned program and in every row, IS THE sha256 OF THE DUMP (.gsa) THAT YtggojehmbpbefaaProg.lean LOADS. Nothing in Lean hashes anything: it is a label: what it is worth is what the hold of that sum in a sandbox is worth. -/
noncomputable def Try.pinned : Pinned := { name := "ytggojehmbpbefaa", sum := "ff6f90b7945bdd649df8e5e049d463f095aaaf2d6f216472d291da9da737af23", checked := Try.checked }
namespace Rows
def none {H : Type} : Left H := { results := [], args := [] }

/-- 'laws.FnExactIsDiscreteFibration': WHATEVER THE INPUT: true; the input reads as it did. -/
def fnExactIsDiscreteFibrationSpec : ChangeSpec := { name := "fnExactIsDiscreteFibration", fn := fun _ => fun
  | [d] => { results := [.lit (.bool true)], args := [d] }
  | _ => none }
def fnExactIsDiscreteFibrationRow : OpenClaim := { program := "ytggojehmbpbefaa", sum := "ff6f90b7945bdd649df8e5e049d463f095aaaf2d6f216472d291da9da737af23", func := "loop.example/g01083/laws.FnExactIsDiscreteFibration", spec := "fnExactIsDiscreteFibration", unfollowed := true, recurses := true, apart := false }
def FnExactIsDiscreteFibrationSaid : Prop := fnExactIsDiscreteFibrationRow.holds Try.pinned (OpenSpec.ofChange fnExactIsDiscreteFibrationSpec)

/-- ITS FALSE NEIGHBOUR: 'it returns false'. Refute it at one input. -/
def fnExactIsDiscreteFibrationWrong : ChangeSpec := { name := "fnExactIsDiscreteFibration", fn := fun _ => fun
  | [d] => { results := [.lit (.bool false)], args := [d] }
  | _ => none }
def FnExactIsDiscreteFibrationWrongFalsely : Prop := fnExactIsDiscreteFibrationRow.holds Try.pinned (OpenSpec.ofChange fnExactIsDiscreteFibrationWrong)

/-- 'laws.FnExactIsCocone': WHATEVER THE INPUT: true; the input reads as it did. -/
def fnExactIsCoconeSpec : ChangeSpec := { name := "fnExactIsCocone", fn := fun _ => fun
  | [d1, d2] => { results := [.lit (.bool true)], args := [d1, d2] }
  | _ => none }
def fnExactIsCoconeRow : OpenClaim := { program := "ytggojehmbpbefaa", sum := "ff6f90b7945bdd649df8e5e049d463f095aaaf2d6f216472d291da9da737af23", func := "loop.example/g01083/laws.FnExactIsCocone", spec := "fnExactIsCocone", unfollowed := true, recurses := true, apart := false }
def FnExactIsCoconeSaid : Prop := fnExactIsCoconeRow.holds Try.pinned (OpenSpec.ofChange fnExactIsCoconeSpec)

/-- ITS FALSE NEIGHBOUR: 'it returns false'. Refute it at one input. -/
def fnExactIsCoconeWrong : ChangeSpec := { name := "fnExactIsCocone", fn := fun _ => fun
  | [d1, d2] => { results := [.lit (.bool false)], args := [d1, d2] }
  | _ => none }
def FnExactIsCoconeWrongFalsely : Prop := fnExactIsCoconeRow.holds Try.pinned (OpenSpec.ofChange fnExactIsCoconeWrong)

/-- 'laws.FnExactFirstProjection': WHATEVER THE INPUT: true; the input reads as it did. -/
def fnExactFirstProjectionSpec : ChangeSpec := { name := "fnExactFirstProjection", fn := fun _ => fun
  | [d1, d2] => { results := [.lit (.bool true)], args := [d1, d2] }
  | _ => none }
def fnExactFirstProjectionRow : OpenClaim := { program := "ytggojehmbpbefaa", sum := "ff6f90b7945bdd649df8e5e049d463f095aaaf2d6f216472d291da9da737af23", func := "loop.example/g01083/laws.FnExactFirstProjection", spec := "fnExactFirstProjection", unfollowed := true, recurses := true, apart := false }
def FnExactFirstProjectionSaid : Prop := fnExactFirstProjectionRow.holds Try.pinned (OpenSpec.ofChange fnExactFirstProjectionSpec)

/-- ITS FALSE NEIGHBOUR: 'it returns false'. Refute it at one input. -/
def fnExactFirstProjectionWrong : ChangeSpec := { name := "fnExactFirstProjection", fn := fun _ => fun
  | [d1, d2] => { results := [.lit (.bool false)], args := [d1, d2] }
  | _ => none }
def FnExactFirstProjectionWrongFalsely : Prop := fnExactFirstProjectionRow.holds Try.pinned (OpenSpec.ofChange fnExactFirstProjectionWrong)

/-- 'laws.FnExactSecondProjection': WHATEVER THE INPUT: true; the input reads as it did. -/
def fnExactSecondProjectionSpec : ChangeSpec := { name := "fnExactSecondProjection", fn := fun _ => fun
  | [d1, d2] => { results := [.lit (.bool true)], args := [d1, d2] }
  | _ => none }
def fnExactSecondProjectionRow : OpenClaim := { program := "ytggojehmbpbefaa", sum := "ff6f90b7945bdd649df8e5e049d463f095aaaf2d6f216472d291da9da737af23", func := "loop.example/g01083/laws.FnExactSecondProjection", spec := "fnExactSecondProjection", unfollowed := true, recurses := true, apart := false }
def FnExactSecondProjectionSaid : Prop := fnExactSecondProjectionRow.holds Try.pinned (OpenSpec.ofChange fnExactSecondProjectionSpec)

/-- ITS FALSE NEIGHBOUR: 'it returns false'. Refute it at one input. -/
def fnExactSecondProjectionWrong : ChangeSpec := { name := "fnExactSecondProjection", fn := fun _ => fun
  | [d1, d2] => { results := [.lit (.bool false)], args := [d1, d2] }
  | _ => none }
def FnExactSecondProjectionWrongFalsely : Prop := fnExactSecondProjectionRow.holds Try.pinned (OpenSpec.ofChange fnExactSecondProjectionWrong)

/-- 'laws.FnExactOppositeFunctor': WHATEVER THE INPUT: true; the input reads as it did. -/
def fnExactOppositeFunctorSpec : ChangeSpec := { name := "fnExactOppositeFunctor", fn := fun _ => fun
  | [d] => { results := [.lit (.bool true)], args := [d] }
  | _ => none }
def fnExactOppositeFunctorRow : OpenClaim := { program := "ytggojehmbpbefaa", sum := "ff6f90b7945bdd649df8e5e049d463f095aaaf2d6f216472d291da9da737af23", func := "loop.example/g01083/laws.FnExactOppositeFunctor", spec := "fnExactOppositeFunctor", unfollowed := true, recurses := true, apart := false }
def FnExactOppositeFunctorSaid : Prop := fnExactOppositeFunctorRow.holds Try.pinned (OpenSpec.ofChange fnExactOppositeFunctorSpec)

/-- ITS FALSE NEIGHBOUR: 'it returns false'. Refute it at one input. -/
def fnExactOppositeFunctorWrong : ChangeSpec := { name := "fnExactOppositeFunctor", fn := fun _ => fun
  | [d] => { results := [.lit (.bool false)], args := [d] }
  | _ => none }
def FnExactOppositeFunctorWrongFalsely : Prop := fnExactOppositeFunctorRow.holds Try.pinned (OpenSpec.ofChange fnExactOppositeFunctorWrong)

/-- 'laws.FnExactIdentityTransformation': WHATEVER THE INPUT: true; the input reads as it did. -/
def fnExactIdentityTransformationSpec : ChangeSpec := { name := "fnExactIdentityTransformation", fn := fun _ => fun
  | [d] => { results := [.lit (.bool true)], args := [d] }
  | _ => none }
def fnExactIdentityTransformationRow : OpenClaim := { program := "ytggojehmbpbefaa", sum := "ff6f90b7945bdd649df8e5e049d463f095aaaf2d6f216472d291da9da737af23", func := "loop.example/g01083/laws.FnExactIdentityTransformation", spec := "fnExactIdentityTransformation", apart := false }
def FnExactIdentityTransformationSaid : Prop := fnExactIdentityTransformationRow.holds Try.pinned (OpenSpec.ofChange fnExactIdentityTransformationSpec)

/-- ITS FALSE NEIGHBOUR: 'it returns false'. Refute it at one input. -/
def fnExactIdentityTransformationWrong : ChangeSpec := { name := "fnExactIdentityTransformation", fn := fun _ => fun
  | [d] => { results := [.lit (.bool false)], args := [d] }
  | _ => none }
def FnExactIdentityTransformationWrongFalsely : Prop := fnExactIdentityTransformationRow.holds Try.pinned (OpenSpec.ofChange fnExactIdentityTransformationWrong)

/-- 'laws.FnExactHorizontalComposite': WHATEVER THE INPUT: true; the input reads as it did. -/
def fnExactHorizontalCompositeSpec : ChangeSpec := { name := "fnExactHorizontalComposite", fn := fun _ => fun
  | [d1, d2] => { results := [.lit (.bool true)], args := [d1, d2] }
  | _ => none }
def fnExactHorizontalCompositeRow : OpenClaim := { program := "ytggojehmbpbefaa", sum := "ff6f90b7945bdd649df8e5e049d463f095aaaf2d6f216472d291da9da737af23", func := "loop.example/g01083/laws.FnExactHorizontalComposite", spec := "fnExactHorizontalComposite", unfollowed := true, recurses := true, apart := false }
def FnExactHorizontalCompositeSaid : Prop := fnExactHorizontalCompositeRow.holds Try.pinned (OpenSpec.ofChange fnExactHorizontalCompositeSpec)

/-- ITS FALSE NEIGHBOUR: 'it returns false'. Refute it at one input. -/
def fnExactHorizontalCompositeWrong : ChangeSpec := { name := "fnExactHorizontalComposite", fn := fun _ => fun
  | [d1, d2] => { results := [.lit (.bool false)], args := [d1, d2] }
  | _ => none }
def FnExactHorizontalCompositeWrongFalsely : Prop := fnExactHorizontalCompositeRow.holds Try.pinned (OpenSpec.ofChange fnExactHorizontalCompositeWrong)

/-- 'laws.FnExactInverseFunctor': WHATEVER THE INPUT: true; the input reads as it did. -/
def fnExactInverseFunctorSpec : ChangeSpec := { name := "fnExactInverseFunctor", fn := fun _ => fun
  | [d] => { results := [.lit (.bool true)], args := [d] }
  | _ => none }
def fnExactInverseFunctorRow : OpenClaim := { program := "ytggojehmbpbefaa", sum := "ff6f90b7945bdd649df8e5e049d463f095aaaf2d6f216472d291da9da737af23", func := "loop.example/g01083/laws.FnExactInverseFunctor", spec := "fnExactInverseFunctor", apart := false }
def FnExactInverseFunctorSaid : Prop := fnExactInverseFunctorRow.holds Try.pinned (OpenSpec.ofChange fnExactInverseFunctorSpec)

/-- ITS FALSE NEIGHBOUR: 'it returns false'. Refute it at one input. -/
def fnExactInverseFunctorWrong : ChangeSpec := { name := "fnExactInverseFunctor", fn := fun _ => fun
  | [d] => { results := [.lit (.bool false)], args := [d] }
  | _ => none }
def FnExactInverseFunctorWrongFalsely : Prop := fnExactInverseFunctorRow.holds Try.pinned (OpenSpec.ofChange fnExactInverseFunctorWrong)

/-- 'laws.FnExactIdentitySetMap': WHATEVER THE INPUT: true; the input reads as it did. -/
def fnExactIdentitySetMapSpec : ChangeSpec := { name := "fnExactIdentitySetMap", fn := fun _ => fun
  | [d] => { results := [.lit (.bool true)], args := [d] }
  | _ => none }
def fnExactIdentitySetMapRow : OpenClaim := { program := "ytggojehmbpbefaa", sum := "ff6f90b7945bdd649df8e5e049d463f095aaaf2d6f216472d291da9da737af23", func := "loop.example/g01083/laws.FnExactIdentitySetMap", spec := "fnExactIdentitySetMap", apart := false }
def FnExactIdentitySetMapSaid : Prop := fnExactIdentitySetMapRow.holds Try.pinned (OpenSpec.ofChange fnExactIdentitySetMapSpec)

/-- ITS FALSE NEIGHBOUR: 'it returns false'. Refute it at one input. -/
def fnExactIdentitySetMapWrong : ChangeSpec := { name := "fnExactIdentitySetMap", fn := fun _ => fun
  | [d] => { results := [.lit (.bool false)], args := [d] }
  | _ => none }
def FnExactIdentitySetMapWrongFalsely : Prop := fnExactIdentitySetMapRow.holds Try.pinned (OpenSpec.ofChange fnExactIdentitySetMapWrong)

/-- 'laws.FnExactApplyChanges': WHATEVER THE INPUT: true; the input reads as it did. -/
def fnExactApplyChangesSpec : ChangeSpec := { name := "fnExactApplyChanges", fn := fun _ => fun
  | [d1, d2, d3, d4] => { results := [.lit (.bool true)], args := [d1, d2, d3, d4] }
  | _ => none }
def fnExactApplyChangesRow : OpenClaim := { program := "ytggojehmbpbefaa", sum := "ff6f90b7945bdd649df8e5e049d463f095aaaf2d6f216472d291da9da737af23", func := "loop.example/g01083/laws.FnExactApplyChanges", spec := "fnExactApplyChanges", apart := false }
def FnExactApplyChangesSaid : Prop := fnExactApplyChangesRow.holds Try.pinned (OpenSpec.ofChange fnExactApplyChangesSpec)

/-- ITS FALSE NEIGHBOUR: 'it returns false'. Refute it at one input. -/
def fnExactApplyChangesWrong : ChangeSpec := { name := "fnExactApplyChanges", fn := fun _ => fun
  | [d1, d2, d3, d4] => { results := [.lit (.bool false)], args := [d1, d2, d3, d4] }
  | _ => none }
def FnExactApplyChangesWrongFalsely : Prop := fnExactApplyChangesRow.holds Try.pinned (OpenSpec.ofChange fnExactApplyChangesWrong)

/-- 'laws.FnExactHomProfunctor': WHATEVER THE INPUT: true; the input reads as it did. -/
def fnExactHomProfunctorSpec : ChangeSpec := { name := "fnExactHomProfunctor", fn := fun _ => fun
  | [d] => { results := [.lit (.bool true)], args := [d] }
  | _ => none }
def fnExactHomProfunctorRow : OpenClaim := { program := "ytggojehmbpbefaa", sum := "ff6f90b7945bdd649df8e5e049d463f095aaaf2d6f216472d291da9da737af23", func := "loop.example/g01083/laws.FnExactHomProfunctor", spec := "fnExactHomProfunctor", unfollowed := true, recurses := true, apart := false }
def FnExactHomProfunctorSaid : Prop := fnExactHomProfunctorRow.holds Try.pinned (OpenSpec.ofChange fnExactHomProfunctorSpec)

/-- ITS FALSE NEIGHBOUR: 'it returns false'. Refute it at one input. -/
def fnExactHomProfunctorWrong : ChangeSpec := { name := "fnExactHomProfunctor", fn := fun _ => fun
  | [d] => { results := [.lit (.bool false)], args := [d] }
  | _ => none }
def FnExactHomProfunctorWrongFalsely : Prop := fnExactHomProfunctorRow.holds Try.pinned (OpenSpec.ofChange fnExactHomProfunctorWrong)

/- THE SECOND FORM. 'bulk': how many values and letters a reading holds, each counted each time it is reached (what is shared counts as often as it is met; a slice's spare places count too). A statement '..UptoSaid' is the law's where the arguments, and the package variables that the reading takes, are together of bulk at most 1048576: NARROWER than '..Said'. Prove '..Said' where nothing that the law and all that it calls make is longer than what came in: it says more and counts as full. Else prove '..UptoSaid'. A law counts once. -/
mutual
def uptoBulk {H : Type} : DataW H → Nat
  | .lit (.string bytes) => bytes.length + 1
  | .lit _ => 1
  | .nil => 1
  | .ptr d => uptoBulk d + 1
  | .slice elems spare => uptoBulkAll elems + uptoBulkAll spare + 1
  | .agg parts => uptoBulkAll parts + 1
  | .iface _ d => uptoBulk d + 1
  | .map entries => uptoBulkEntries entries + 1
  | .held _ => 1
def uptoBulkAll {H : Type} : List (DataW H) → Nat
  | [] => 0
  | d :: r => uptoBulk d + uptoBulkAll r
def uptoBulkEntries {H : Type} : List (Lit × DataW H) → Nat
  | [] => 0
  | x :: r => uptoBulkEntry x + uptoBulkEntries r
def uptoBulkEntry {H : Type} : Lit × DataW H → Nat
  | (.string bytes, d) => bytes.length + uptoBulk d + 1
  | (_, d) => uptoBulk d + 1
 end
def uptoSmall : (H : Type) → List (DataW H) → Bool := fun _ ds => decide (uptoBulkAll ds ≤ 1048576)
def OpenSpec.upto (s : _root_.Go.ChangeSpec) : _root_.Go.OpenSpec := { _root_.Go.OpenSpec.ofChange s with cond := some uptoSmall }

/-- 'laws.FnExactIsDiscreteFibration', WHERE WHAT IT READS IS OF BULK AT MOST 1048576: true; the input reads as it did. -/
def fnExactIsDiscreteFibrationUptoRow : OpenClaim := { program := "ytggojehmbpbefaa", sum := "ff6f90b7945bdd649df8e5e049d463f095aaaf2d6f216472d291da9da737af23", func := "loop.example/g01083/laws.FnExactIsDiscreteFibration", spec := "fnExactIsDiscreteFibration", unfollowed := true, recurses := true, apart := false, narrowed := true }
def FnExactIsDiscreteFibrationUptoSaid : Prop := fnExactIsDiscreteFibrationUptoRow.holds Try.pinned (OpenSpec.upto fnExactIsDiscreteFibrationSpec)

/-- 'laws.FnExactIsCocone', WHERE WHAT IT READS IS OF BULK AT MOST 1048576: true; the input reads as it did. -/
def fnExactIsCoconeUptoRow : OpenClaim := { program := "ytggojehmbpbefaa", sum := "ff6f90b7945bdd649df8e5e049d463f095aaaf2d6f216472d291da9da737af23", func := "loop.example/g01083/laws.FnExactIsCocone", spec := "fnExactIsCocone", unfollowed := true, recurses := true, apart := false, narrowed := true }
def FnExactIsCoconeUptoSaid : Prop := fnExactIsCoconeUptoRow.holds Try.pinned (OpenSpec.upto fnExactIsCoconeSpec)

/-- 'laws.FnExactFirstProjection', WHERE WHAT IT READS IS OF BULK AT MOST 1048576: true; the input reads as it did. -/
def fnExactFirstProjectionUptoRow : OpenClaim := { program := "ytggojehmbpbefaa", sum := "ff6f90b7945bdd649df8e5e049d463f095aaaf2d6f216472d291da9da737af23", func := "loop.example/g01083/laws.FnExactFirstProjection", spec := "fnExactFirstProjection", unfollowed := true, recurses := true, apart := false, narrowed := true }
def FnExactFirstProjectionUptoSaid : Prop := fnExactFirstProjectionUptoRow.holds Try.pinned (OpenSpec.upto fnExactFirstProjectionSpec)

/-- 'laws.FnExactSecondProjection', WHERE WHAT IT READS IS OF BULK AT MOST 1048576: true; the input reads as it did. -/
def fnExactSecondProjectionUptoRow : OpenClaim := { program := "ytggojehmbpbefaa", sum := "ff6f90b7945bdd649df8e5e049d463f095aaaf2d6f216472d291da9da737af23", func := "loop.example/g01083/laws.FnExactSecondProjection", spec := "fnExactSecondProjection", unfollowed := true, recurses := true, apart := false, narrowed := true }
def FnExactSecondProjectionUptoSaid : Prop := fnExactSecondProjectionUptoRow.holds Try.pinned (OpenSpec.upto fnExactSecondProjectionSpec)

/-- 'laws.FnExactOppositeFunctor', WHERE WHAT IT READS IS OF BULK AT MOST 1048576: true; the input reads as it did. -/
def fnExactOppositeFunctorUptoRow : OpenClaim := { program := "ytggojehmbpbefaa", sum := "ff6f90b7945bdd649df8e5e049d463f095aaaf2d6f216472d291da9da737af23", func := "loop.example/g01083/laws.FnExactOppositeFunctor", spec := "fnExactOppositeFunctor", unfollowed := true, recurses := true, apart := false, narrowed := true }
def FnExactOppositeFunctorUptoSaid : Prop := fnExactOppositeFunctorUptoRow.holds Try.pinned (OpenSpec.upto fnExactOppositeFunctorSpec)

/-- 'laws.FnExactIdentityTransformation', WHERE WHAT IT READS IS OF BULK AT MOST 1048576: true; the input reads as it did. -/
def fnExactIdentityTransformationUptoRow : OpenClaim := { program := "ytggojehmbpbefaa", sum := "ff6f90b7945bdd649df8e5e049d463f095aaaf2d6f216472d291da9da737af23", func := "loop.example/g01083/laws.FnExactIdentityTransformation", spec := "fnExactIdentityTransformation", apart := false, narrowed := true }
def FnExactIdentityTransformationUptoSaid : Prop := fnExactIdentityTransformationUptoRow.holds Try.pinned (OpenSpec.upto fnExactIdentityTransformationSpec)

/-- 'laws.FnExactHorizontalComposite', WHERE WHAT IT READS IS OF BULK AT MOST 1048576: true; the input reads as it did. -/
def fnExactHorizontalCompositeUptoRow : OpenClaim := { program := "ytggojehmbpbefaa", sum := "ff6f90b7945bdd649df8e5e049d463f095aaaf2d6f216472d291da9da737af23", func := "loop.example/g01083/laws.FnExactHorizontalComposite", spec := "fnExactHorizontalComposite", unfollowed := true, recurses := true, apart := false, narrowed := true }
def FnExactHorizontalCompositeUptoSaid : Prop := fnExactHorizontalCompositeUptoRow.holds Try.pinned (OpenSpec.upto fnExactHorizontalCompositeSpec)

/-- 'laws.FnExactInverseFunctor', WHERE WHAT IT READS IS OF BULK AT MOST 1048576: true; the input reads as it did. -/
def fnExactInverseFunctorUptoRow : OpenClaim := { program := "ytggojehmbpbefaa", sum := "ff6f90b7945bdd649df8e5e049d463f095aaaf2d6f216472d291da9da737af23", func := "loop.example/g01083/laws.FnExactInverseFunctor", spec := "fnExactInverseFunctor", apart := false, narrowed := true }
def FnExactInverseFunctorUptoSaid : Prop := fnExactInverseFunctorUptoRow.holds Try.pinned (OpenSpec.upto fnExactInverseFunctorSpec)

/-- 'laws.FnExactIdentitySetMap', WHERE WHAT IT READS IS OF BULK AT MOST 1048576: true; the input reads as it did. -/
def fnExactIdentitySetMapUptoRow : OpenClaim := { program := "ytggojehmbpbefaa", sum := "ff6f90b7945bdd649df8e5e049d463f095aaaf2d6f216472d291da9da737af23", func := "loop.example/g01083/laws.FnExactIdentitySetMap", spec := "fnExactIdentitySetMap", apart := false, narrowed := true }
def FnExactIdentitySetMapUptoSaid : Prop := fnExactIdentitySetMapUptoRow.holds Try.pinned (OpenSpec.upto fnExactIdentitySetMapSpec)

/-- 'laws.FnExactApplyChanges', WHERE WHAT IT READS IS OF BULK AT MOST 1048576: true; the input reads as it did. -/
def fnExactApplyChangesUptoRow : OpenClaim := { program := "ytggojehmbpbefaa", sum := "ff6f90b7945bdd649df8e5e049d463f095aaaf2d6f216472d291da9da737af23", func := "loop.example/g01083/laws.FnExactApplyChanges", spec := "fnExactApplyChanges", apart := false, narrowed := true }
def FnExactApplyChangesUptoSaid : Prop := fnExactApplyChangesUptoRow.holds Try.pinned (OpenSpec.upto fnExactApplyChangesSpec)

/-- 'laws.FnExactHomProfunctor', WHERE WHAT IT READS IS OF BULK AT MOST 1048576: true; the input reads as it did. -/
def fnExactHomProfunctorUptoRow : OpenClaim := { program := "ytggojehmbpbefaa", sum := "ff6f90b7945bdd649df8e5e049d463f095aaaf2d6f216472d291da9da737af23", func := "loop.example/g01083/laws.FnExactHomProfunctor", spec := "fnExactHomProfunctor", unfollowed := true, recurses := true, apart := false, narrowed := true }
def FnExactHomProfunctorUptoSaid : Prop := fnExactHomProfunctorUptoRow.holds Try.pinned (OpenSpec.upto fnExactHomProfunctorSpec)

end Rows
end Go.Proofs.Ytggojehmbpbefaa
