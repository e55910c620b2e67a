/-
  No cell of these rows narrows 'for every input' (looked for: loops, veiled, ifaces, maps, wideKeys, modest, calm, conditions, laid).
  DERIVED. THE GIVEN ROWS OF THIS SEAT. 12 by the template 'for every input the law returns true; each argument reads behind the call as it read before'; 0 by the template 'total and deterministic' (their statements: YtjmjhhhglbeacaaTotals.lean).
  GIVEN WITH THE SEED: the statements are not yours to turn. If you find one false, say at which input.
  Laid BY PROGRAM, IN A SANDBOX (cutbox-rows.mjs): the forced cells as the released guide's own fill.sh prints them over the translation 14f10880d240fa40… (all of the seat's roots in one cut). By AI agents, Wed Nov 11 2026. No macro, syntax, notation, axiom, sorry.
-/
import Derived.Test.YtjmjhhhglbeacaaChecked
import GoSem.Claim
import GoSem.ClaimJoined
import GoSem.ClaimMapViews
import Derived.JoinedTies
import Derived.KernelRfl
namespace Go.Proofs.Ytjmjhhhglbeacaa
/- THE CELL 'sum', in the pinned program and in every row, IS THE sha256 OF THE DUMP (.gsa) THAT YtjmjhhhglbeacaaProg.lean LOADS. Nothing in Lean hashes anything: it is a label: what it is worth is what the hold of that sum in a sandbox is worth. -/
noncomputable def Try.pinned : Pinned := { name := "ytjmjhhhglbeacaa", sum := "14f10880d240fa4019bf266cdd602148c59084161030e433bc6138d8dd47ff9c", checked := Try.checked }
namespace Rows
def none {H : Type} : Left H := { results := [], args := [] }

/-- 'laws.FnExactIsClosed': WHATEVER THE INPUT: true; the input reads as it did. -/
def fnExactIsClosedSpec : ChangeSpec := { name := "fnExactIsClosed", fn := fun _ => fun
  | [d] => { results := [.lit (.bool true)], args := [d] }
  | _ => none }
def fnExactIsClosedRow : OpenClaim := { program := "ytjmjhhhglbeacaa", sum := "14f10880d240fa4019bf266cdd602148c59084161030e433bc6138d8dd47ff9c", func := "loop.example/g01083/laws.FnExactIsClosed", spec := "fnExactIsClosed", apart := false }
def FnExactIsClosedSaid : Prop := fnExactIsClosedRow.holds Try.pinned (OpenSpec.ofChange fnExactIsClosedSpec)

/-- ITS FALSE NEIGHBOUR: 'it returns false'. Refute it at one input. -/
def fnExactIsClosedWrong : ChangeSpec := { name := "fnExactIsClosed", fn := fun _ => fun
  | [d] => { results := [.lit (.bool false)], args := [d] }
  | _ => none }
def FnExactIsClosedWrongFalsely : Prop := fnExactIsClosedRow.holds Try.pinned (OpenSpec.ofChange fnExactIsClosedWrong)

/-- 'laws.FnExactInternalHom': WHATEVER THE INPUT: true; the input reads as it did. -/
def fnExactInternalHomSpec : ChangeSpec := { name := "fnExactInternalHom", fn := fun _ => fun
  | [d1, d2, d3] => { results := [.lit (.bool true)], args := [d1, d2, d3] }
  | _ => none }
def fnExactInternalHomRow : OpenClaim := { program := "ytjmjhhhglbeacaa", sum := "14f10880d240fa4019bf266cdd602148c59084161030e433bc6138d8dd47ff9c", func := "loop.example/g01083/laws.FnExactInternalHom", spec := "fnExactInternalHom", apart := false }
def FnExactInternalHomSaid : Prop := fnExactInternalHomRow.holds Try.pinned (OpenSpec.ofChange fnExactInternalHomSpec)

/-- ITS FALSE NEIGHBOUR: 'it returns false'. Refute it at one input. -/
def fnExactInternalHomWrong : ChangeSpec := { name := "fnExactInternalHom", fn := fun _ => fun
  | [d1, d2, d3] => { results := [.lit (.bool false)], args := [d1, d2, d3] }
  | _ => none }
def FnExactInternalHomWrongFalsely : Prop := fnExactInternalHomRow.holds Try.pinned (OpenSpec.ofChange fnExactInternalHomWrong)

/-- 'laws.FnExactFibreSets': WHATEVER THE INPUT: true; the input reads as it did. -/
def fnExactFibreSetsSpec : ChangeSpec := { name := "fnExactFibreSets", fn := fun _ => fun
  | [d] => { results := [.lit (.bool true)], args := [d] }
  | _ => none }
def fnExactFibreSetsRow : OpenClaim := { program := "ytjmjhhhglbeacaa", sum := "14f10880d240fa4019bf266cdd602148c59084161030e433bc6138d8dd47ff9c", func := "loop.example/g01083/laws.FnExactFibreSets", spec := "fnExactFibreSets", apart := false }
def FnExactFibreSetsSaid : Prop := fnExactFibreSetsRow.holds Try.pinned (OpenSpec.ofChange fnExactFibreSetsSpec)

/-- ITS FALSE NEIGHBOUR: 'it returns false'. Refute it at one input. -/
def fnExactFibreSetsWrong : ChangeSpec := { name := "fnExactFibreSets", fn := fun _ => fun
  | [d] => { results := [.lit (.bool false)], args := [d] }
  | _ => none }
def FnExactFibreSetsWrongFalsely : Prop := fnExactFibreSetsRow.holds Try.pinned (OpenSpec.ofChange fnExactFibreSetsWrong)

/-- 'laws.FnExactTensorBehind': WHATEVER THE INPUT: true; the input reads as it did. -/
def fnExactTensorBehindSpec : ChangeSpec := { name := "fnExactTensorBehind", fn := fun _ => fun
  | [d1, d2] => { results := [.lit (.bool true)], args := [d1, d2] }
  | _ => none }
def fnExactTensorBehindRow : OpenClaim := { program := "ytjmjhhhglbeacaa", sum := "14f10880d240fa4019bf266cdd602148c59084161030e433bc6138d8dd47ff9c", func := "loop.example/g01083/laws.FnExactTensorBehind", spec := "fnExactTensorBehind", apart := false }
def FnExactTensorBehindSaid : Prop := fnExactTensorBehindRow.holds Try.pinned (OpenSpec.ofChange fnExactTensorBehindSpec)

/-- ITS FALSE NEIGHBOUR: 'it returns false'. Refute it at one input. -/
def fnExactTensorBehindWrong : ChangeSpec := { name := "fnExactTensorBehind", fn := fun _ => fun
  | [d1, d2] => { results := [.lit (.bool false)], args := [d1, d2] }
  | _ => none }
def FnExactTensorBehindWrongFalsely : Prop := fnExactTensorBehindRow.holds Try.pinned (OpenSpec.ofChange fnExactTensorBehindWrong)

/-- 'laws.FnExactCopairFunctors': WHATEVER THE INPUT: true; the input reads as it did. -/
def fnExactCopairFunctorsSpec : ChangeSpec := { name := "fnExactCopairFunctors", fn := fun _ => fun
  | [d1, d2] => { results := [.lit (.bool true)], args := [d1, d2] }
  | _ => none }
def fnExactCopairFunctorsRow : OpenClaim := { program := "ytjmjhhhglbeacaa", sum := "14f10880d240fa4019bf266cdd602148c59084161030e433bc6138d8dd47ff9c", func := "loop.example/g01083/laws.FnExactCopairFunctors", spec := "fnExactCopairFunctors", unfollowed := true, recurses := true, apart := false }
def FnExactCopairFunctorsSaid : Prop := fnExactCopairFunctorsRow.holds Try.pinned (OpenSpec.ofChange fnExactCopairFunctorsSpec)

/-- ITS FALSE NEIGHBOUR: 'it returns false'. Refute it at one input. -/
def fnExactCopairFunctorsWrong : ChangeSpec := { name := "fnExactCopairFunctors", fn := fun _ => fun
  | [d1, d2] => { results := [.lit (.bool false)], args := [d1, d2] }
  | _ => none }
def FnExactCopairFunctorsWrongFalsely : Prop := fnExactCopairFunctorsRow.holds Try.pinned (OpenSpec.ofChange fnExactCopairFunctorsWrong)

/-- 'laws.FnExactIsFamily': WHATEVER THE INPUT: true; the input reads as it did. -/
def fnExactIsFamilySpec : ChangeSpec := { name := "fnExactIsFamily", fn := fun _ => fun
  | [d] => { results := [.lit (.bool true)], args := [d] }
  | _ => none }
def fnExactIsFamilyRow : OpenClaim := { program := "ytjmjhhhglbeacaa", sum := "14f10880d240fa4019bf266cdd602148c59084161030e433bc6138d8dd47ff9c", func := "loop.example/g01083/laws.FnExactIsFamily", spec := "fnExactIsFamily", apart := false }
def FnExactIsFamilySaid : Prop := fnExactIsFamilyRow.holds Try.pinned (OpenSpec.ofChange fnExactIsFamilySpec)

/-- ITS FALSE NEIGHBOUR: 'it returns false'. Refute it at one input. -/
def fnExactIsFamilyWrong : ChangeSpec := { name := "fnExactIsFamily", fn := fun _ => fun
  | [d] => { results := [.lit (.bool false)], args := [d] }
  | _ => none }
def FnExactIsFamilyWrongFalsely : Prop := fnExactIsFamilyRow.holds Try.pinned (OpenSpec.ofChange fnExactIsFamilyWrong)

/-- 'laws.FnExactRightAdjointOf': WHATEVER THE INPUT: true; the input reads as it did. -/
def fnExactRightAdjointOfSpec : ChangeSpec := { name := "fnExactRightAdjointOf", fn := fun _ => fun
  | [d] => { results := [.lit (.bool true)], args := [d] }
  | _ => none }
def fnExactRightAdjointOfRow : OpenClaim := { program := "ytjmjhhhglbeacaa", sum := "14f10880d240fa4019bf266cdd602148c59084161030e433bc6138d8dd47ff9c", func := "loop.example/g01083/laws.FnExactRightAdjointOf", spec := "fnExactRightAdjointOf", apart := false }
def FnExactRightAdjointOfSaid : Prop := fnExactRightAdjointOfRow.holds Try.pinned (OpenSpec.ofChange fnExactRightAdjointOfSpec)

/-- ITS FALSE NEIGHBOUR: 'it returns false'. Refute it at one input. -/
def fnExactRightAdjointOfWrong : ChangeSpec := { name := "fnExactRightAdjointOf", fn := fun _ => fun
  | [d] => { results := [.lit (.bool false)], args := [d] }
  | _ => none }
def FnExactRightAdjointOfWrongFalsely : Prop := fnExactRightAdjointOfRow.holds Try.pinned (OpenSpec.ofChange fnExactRightAdjointOfWrong)

/-- 'laws.FnExactProfunctorOfCollage': WHATEVER THE INPUT: true; the input reads as it did. -/
def fnExactProfunctorOfCollageSpec : ChangeSpec := { name := "fnExactProfunctorOfCollage", fn := fun _ => fun
  | [d1, d2] => { results := [.lit (.bool true)], args := [d1, d2] }
  | _ => none }
def fnExactProfunctorOfCollageRow : OpenClaim := { program := "ytjmjhhhglbeacaa", sum := "14f10880d240fa4019bf266cdd602148c59084161030e433bc6138d8dd47ff9c", func := "loop.example/g01083/laws.FnExactProfunctorOfCollage", spec := "fnExactProfunctorOfCollage", unfollowed := true, recurses := true, apart := false }
def FnExactProfunctorOfCollageSaid : Prop := fnExactProfunctorOfCollageRow.holds Try.pinned (OpenSpec.ofChange fnExactProfunctorOfCollageSpec)

/-- ITS FALSE NEIGHBOUR: 'it returns false'. Refute it at one input. -/
def fnExactProfunctorOfCollageWrong : ChangeSpec := { name := "fnExactProfunctorOfCollage", fn := fun _ => fun
  | [d1, d2] => { results := [.lit (.bool false)], args := [d1, d2] }
  | _ => none }
def FnExactProfunctorOfCollageWrongFalsely : Prop := fnExactProfunctorOfCollageRow.holds Try.pinned (OpenSpec.ofChange fnExactProfunctorOfCollageWrong)

/-- 'laws.FnExactAlongFunctor': WHATEVER THE INPUT: true; the input reads as it did. -/
def fnExactAlongFunctorSpec : ChangeSpec := { name := "fnExactAlongFunctor", fn := fun _ => fun
  | [d1, d2] => { results := [.lit (.bool true)], args := [d1, d2] }
  | _ => none }
def fnExactAlongFunctorRow : OpenClaim := { program := "ytjmjhhhglbeacaa", sum := "14f10880d240fa4019bf266cdd602148c59084161030e433bc6138d8dd47ff9c", func := "loop.example/g01083/laws.FnExactAlongFunctor", spec := "fnExactAlongFunctor", apart := false }
def FnExactAlongFunctorSaid : Prop := fnExactAlongFunctorRow.holds Try.pinned (OpenSpec.ofChange fnExactAlongFunctorSpec)

/-- ITS FALSE NEIGHBOUR: 'it returns false'. Refute it at one input. -/
def fnExactAlongFunctorWrong : ChangeSpec := { name := "fnExactAlongFunctor", fn := fun _ => fun
  | [d1, d2] => { results := [.lit (.bool false)], args := [d1, d2] }
  | _ => none }
def FnExactAlongFunctorWrongFalsely : Prop := fnExactAlongFunctorRow.holds Try.pinned (OpenSpec.ofChange fnExactAlongFunctorWrong)

/-- 'laws.FnExactPairsProfunctor': WHATEVER THE INPUT: true; the input reads as it did. -/
def fnExactPairsProfunctorSpec : ChangeSpec := { name := "fnExactPairsProfunctor", fn := fun _ => fun
  | [d1, d2] => { results := [.lit (.bool true)], args := [d1, d2] }
  | _ => none }
def fnExactPairsProfunctorRow : OpenClaim := { program := "ytjmjhhhglbeacaa", sum := "14f10880d240fa4019bf266cdd602148c59084161030e433bc6138d8dd47ff9c", func := "loop.example/g01083/laws.FnExactPairsProfunctor", spec := "fnExactPairsProfunctor", unfollowed := true, recurses := true, apart := false }
def FnExactPairsProfunctorSaid : Prop := fnExactPairsProfunctorRow.holds Try.pinned (OpenSpec.ofChange fnExactPairsProfunctorSpec)

/-- ITS FALSE NEIGHBOUR: 'it returns false'. Refute it at one input. -/
def fnExactPairsProfunctorWrong : ChangeSpec := { name := "fnExactPairsProfunctor", fn := fun _ => fun
  | [d1, d2] => { results := [.lit (.bool false)], args := [d1, d2] }
  | _ => none }
def FnExactPairsProfunctorWrongFalsely : Prop := fnExactPairsProfunctorRow.holds Try.pinned (OpenSpec.ofChange fnExactPairsProfunctorWrong)

/-- 'laws.FnExactLeftAdjointOf': WHATEVER THE INPUT: true; the input reads as it did. -/
def fnExactLeftAdjointOfSpec : ChangeSpec := { name := "fnExactLeftAdjointOf", fn := fun _ => fun
  | [d] => { results := [.lit (.bool true)], args := [d] }
  | _ => none }
def fnExactLeftAdjointOfRow : OpenClaim := { program := "ytjmjhhhglbeacaa", sum := "14f10880d240fa4019bf266cdd602148c59084161030e433bc6138d8dd47ff9c", func := "loop.example/g01083/laws.FnExactLeftAdjointOf", spec := "fnExactLeftAdjointOf", unfollowed := true, recurses := true, apart := false }
def FnExactLeftAdjointOfSaid : Prop := fnExactLeftAdjointOfRow.holds Try.pinned (OpenSpec.ofChange fnExactLeftAdjointOfSpec)

/-- ITS FALSE NEIGHBOUR: 'it returns false'. Refute it at one input. -/
def fnExactLeftAdjointOfWrong : ChangeSpec := { name := "fnExactLeftAdjointOf", fn := fun _ => fun
  | [d] => { results := [.lit (.bool false)], args := [d] }
  | _ => none }
def FnExactLeftAdjointOfWrongFalsely : Prop := fnExactLeftAdjointOfRow.holds Try.pinned (OpenSpec.ofChange fnExactLeftAdjointOfWrong)

/-- 'laws.FnExactMapsProfunctor': WHATEVER THE INPUT: true; the input reads as it did. -/
def fnExactMapsProfunctorSpec : ChangeSpec := { name := "fnExactMapsProfunctor", fn := fun _ => fun
  | [d1, d2] => { results := [.lit (.bool true)], args := [d1, d2] }
  | _ => none }
def fnExactMapsProfunctorRow : OpenClaim := { program := "ytjmjhhhglbeacaa", sum := "14f10880d240fa4019bf266cdd602148c59084161030e433bc6138d8dd47ff9c", func := "loop.example/g01083/laws.FnExactMapsProfunctor", spec := "fnExactMapsProfunctor", unfollowed := true, recurses := true, apart := false }
def FnExactMapsProfunctorSaid : Prop := fnExactMapsProfunctorRow.holds Try.pinned (OpenSpec.ofChange fnExactMapsProfunctorSpec)

/-- ITS FALSE NEIGHBOUR: 'it returns false'. Refute it at one input. -/
def fnExactMapsProfunctorWrong : ChangeSpec := { name := "fnExactMapsProfunctor", fn := fun _ => fun
  | [d1, d2] => { results := [.lit (.bool false)], args := [d1, d2] }
  | _ => none }
def FnExactMapsProfunctorWrongFalsely : Prop := fnExactMapsProfunctorRow.holds Try.pinned (OpenSpec.ofChange fnExactMapsProfunctorWrong)

/- THE SECOND FORM. 'bulk': how many values and letters a reading holds, each counted each time it is reached (what is shared counts as often as it is met; a slice's spare places count too). A statement '..UptoSaid' is the law's where the arguments, and the package variables that the reading takes, are together of bulk at most 1048576: NARROWER than '..Said'. Prove '..Said' where nothing that the law and all that it calls make is longer than what came in: it says more and counts as full. Else prove '..UptoSaid'. A law counts once. -/
mutual
def uptoBulk {H : Type} : DataW H → Nat
  | .lit (.string bytes) => bytes.length + 1
  | .lit _ => 1
  | .nil => 1
  | .ptr d => uptoBulk d + 1
  | .slice elems spare => uptoBulkAll elems + uptoBulkAll spare + 1
  | .agg parts => uptoBulkAll parts + 1
  | .iface _ d => uptoBulk d + 1
  | .map entries => uptoBulkEntries entries + 1
  | .held _ => 1
def uptoBulkAll {H : Type} : List (DataW H) → Nat
  | [] => 0
  | d :: r => uptoBulk d + uptoBulkAll r
def uptoBulkEntries {H : Type} : List (Lit × DataW H) → Nat
  | [] => 0
  | x :: r => uptoBulkEntry x + uptoBulkEntries r
def uptoBulkEntry {H : Type} : Lit × DataW H → Nat
  | (.string bytes, d) => bytes.length + uptoBulk d + 1
  | (_, d) => uptoBulk d + 1
 end
def uptoSmall : (H : Type) → List (DataW H) → Bool := fun _ ds => decide (uptoBulkAll ds ≤ 1048576)
def OpenSpec.upto (s : _root_.Go.ChangeSpec) : _root_.Go.OpenSpec := { _root_.Go.OpenSpec.ofChange s with cond := some uptoSmall }

/-- 'laws.FnExactIsClosed', WHERE WHAT IT READS IS OF BULK AT MOST 1048576: true; the input reads as it did. -/
def fnExactIsClosedUptoRow : OpenClaim := { program := "ytjmjhhhglbeacaa", sum := "14f10880d240fa4019bf266cdd602148c59084161030e433bc6138d8dd47ff9c", func := "loop.example/g01083/laws.FnExactIsClosed", spec := "fnExactIsClosed", apart := false, narrowed := true }
def FnExactIsClosedUptoSaid : Prop := fnExactIsClosedUptoRow.holds Try.pinned (OpenSpec.upto fnExactIsClosedSpec)

/-- 'laws.FnExactInternalHom', WHERE WHAT IT READS IS OF BULK AT MOST 1048576: true; the input reads as it did. -/
def fnExactInternalHomUptoRow : OpenClaim := { program := "ytjmjhhhglbeacaa", sum := "14f10880d240fa4019bf266cdd602148c59084161030e433bc6138d8dd47ff9c", func := "loop.example/g01083/laws.FnExactInternalHom", spec := "fnExactInternalHom", apart := false, narrowed := true }
def FnExactInternalHomUptoSaid : Prop := fnExactInternalHomUptoRow.holds Try.pinned (OpenSpec.upto fnExactInternalHomSpec)

/-- 'laws.FnExactFibreSets', WHERE WHAT IT READS IS OF BULK AT MOST 1048576: true; the input reads as it did. -/
def fnExactFibreSetsUptoRow : OpenClaim := { program := "ytjmjhhhglbeacaa", sum := "14f10880d240fa4019bf266cdd602148c59084161030e433bc6138d8dd47ff9c", func := "loop.example/g01083/laws.FnExactFibreSets", spec := "fnExactFibreSets", apart := false, narrowed := true }
def FnExactFibreSetsUptoSaid : Prop := fnExactFibreSetsUptoRow.holds Try.pinned (OpenSpec.upto fnExactFibreSetsSpec)

/-- 'laws.FnExactTensorBehind', WHERE WHAT IT READS IS OF BULK AT MOST 1048576: true; the input reads as it did. -/
def fnExactTensorBehindUptoRow : OpenClaim := { program := "ytjmjhhhglbeacaa", sum := "14f10880d240fa4019bf266cdd602148c59084161030e433bc6138d8dd47ff9c", func := "loop.example/g01083/laws.FnExactTensorBehind", spec := "fnExactTensorBehind", apart := false, narrowed := true }
def FnExactTensorBehindUptoSaid : Prop := fnExactTensorBehindUptoRow.holds Try.pinned (OpenSpec.upto fnExactTensorBehindSpec)

/-- 'laws.FnExactCopairFunctors', WHERE WHAT IT READS IS OF BULK AT MOST 1048576: true; the input reads as it did. -/
def fnExactCopairFunctorsUptoRow : OpenClaim := { program := "ytjmjhhhglbeacaa", sum := "14f10880d240fa4019bf266cdd602148c59084161030e433bc6138d8dd47ff9c", func := "loop.example/g01083/laws.FnExactCopairFunctors", spec := "fnExactCopairFunctors", unfollowed := true, recurses := true, apart := false, narrowed := true }
def FnExactCopairFunctorsUptoSaid : Prop := fnExactCopairFunctorsUptoRow.holds Try.pinned (OpenSpec.upto fnExactCopairFunctorsSpec)

/-- 'laws.FnExactIsFamily', WHERE WHAT IT READS IS OF BULK AT MOST 1048576: true; the input reads as it did. -/
def fnExactIsFamilyUptoRow : OpenClaim := { program := "ytjmjhhhglbeacaa", sum := "14f10880d240fa4019bf266cdd602148c59084161030e433bc6138d8dd47ff9c", func := "loop.example/g01083/laws.FnExactIsFamily", spec := "fnExactIsFamily", apart := false, narrowed := true }
def FnExactIsFamilyUptoSaid : Prop := fnExactIsFamilyUptoRow.holds Try.pinned (OpenSpec.upto fnExactIsFamilySpec)

/-- 'laws.FnExactRightAdjointOf', WHERE WHAT IT READS IS OF BULK AT MOST 1048576: true; the input reads as it did. -/
def fnExactRightAdjointOfUptoRow : OpenClaim := { program := "ytjmjhhhglbeacaa", sum := "14f10880d240fa4019bf266cdd602148c59084161030e433bc6138d8dd47ff9c", func := "loop.example/g01083/laws.FnExactRightAdjointOf", spec := "fnExactRightAdjointOf", apart := false, narrowed := true }
def FnExactRightAdjointOfUptoSaid : Prop := fnExactRightAdjointOfUptoRow.holds Try.pinned (OpenSpec.upto fnExactRightAdjointOfSpec)

/-- 'laws.FnExactProfunctorOfCollage', WHERE WHAT IT READS IS OF BULK AT MOST 1048576: true; the input reads as it did. -/
def fnExactProfunctorOfCollageUptoRow : OpenClaim := { program := "ytjmjhhhglbeacaa", sum := "14f10880d240fa4019bf266cdd602148c59084161030e433bc6138d8dd47ff9c", func := "loop.example/g01083/laws.FnExactProfunctorOfCollage", spec := "fnExactProfunctorOfCollage", unfollowed := true, recurses := true, apart := false, narrowed := true }
def FnExactProfunctorOfCollageUptoSaid : Prop := fnExactProfunctorOfCollageUptoRow.holds Try.pinned (OpenSpec.upto fnExactProfunctorOfCollageSpec)

/-- 'laws.FnExactAlongFunctor', WHERE WHAT IT READS IS OF BULK AT MOST 1048576: true; the input reads as it did. -/
def fnExactAlongFunctorUptoRow : OpenClaim := { program := "ytjmjhhhglbeacaa", sum := "14f10880d240fa4019bf266cdd602148c59084161030e433bc6138d8dd47ff9c", func := "loop.example/g01083/laws.FnExactAlongFunctor", spec := "fnExactAlongFunctor", apart := false, narrowed := true }
def FnExactAlongFunctorUptoSaid : Prop := fnExactAlongFunctorUptoRow.holds Try.pinned (OpenSpec.upto fnExactAlongFunctorSpec)

/-- 'laws.FnExactPairsProfunctor', WHERE WHAT IT READS IS OF BULK AT MOST 1048576: true; the input reads as it did. -/
def fnExactPairsProfunctorUptoRow : OpenClaim := { program := "ytjmjhhhglbeacaa", sum := "14f10880d240fa4019bf266cdd602148c59084161030e433bc6138d8dd47ff9c", func := "loop.example/g01083/laws.FnExactPairsProfunctor", spec := "fnExactPairsProfunctor", unfollowed := true, recurses := true, apart := false, narrowed := true }
def FnExactPairsProfunctorUptoSaid : Prop := fnExactPairsProfunctorUptoRow.holds Try.pinned (OpenSpec.upto fnExactPairsProfunctorSpec)

/-- 'laws.FnExactLeftAdjointOf', WHERE WHAT IT READS IS OF BULK AT MOST 1048576: true; the input reads as it did. -/
def fnExactLeftAdjointOfUptoRow : OpenClaim := { program := "ytjmjhhhglbeacaa", sum := "14f10880d240fa4019bf266cdd602148c59084161030e433bc6138d8dd47ff9c", func := "loop.example/g01083/laws.FnExactLeftAdjointOf", spec := "fnExactLeftAdjointOf", unfollowed := true, recurses := true, apart := false, narrowed := true }
def FnExactLeftAdjointOfUptoSaid : Prop := fnExactLeftAdjointOfUptoRow.holds Try.pinned (OpenSpec.upto fnExactLeftAdjointOfSpec)

/-- 'laws.FnExactMapsProfunctor', WHERE WHAT IT READS IS OF BULK AT MOST 1048576: true; the input reads as it did. -/
def fnExactMapsProfunctorUptoRow : OpenClaim := { program := "ytjmjhhhglbeacaa", sum := "14f10880d240fa4019bf266cdd602148c59084161030e433bc6138d8dd47ff9c", func := "loop.example/g01083/laws.FnExactMapsProfunctor", spec := "fnExactMapsProfunctor", unfollowed := true, recurses := true, apart := false, narrowed := true }
def FnExactMapsProfunctorUptoSaid : Prop := fnExactMapsProfunctorUptoRow.holds Try.pinned (OpenSpec.upto fnExactMapsProfunctorSpec)

end Rows
end Go.Proofs.Ytjmjhhhglbeacaa
