/-
  No cell of these rows narrows 'for every input' (looked for: loops, veiled, ifaces, maps, wideKeys, modest, calm, conditions, laid).
  DERIVED. THE GIVEN ROWS OF THIS SEAT. 12 by the template 'for every input the law returns true; each argument reads behind the call as it read before'; 0 by the template 'total and deterministic' (their statements: YtpfdieaiogfihaaTotals.lean).
  GIVEN WITH THE SEED: the statements are not yours to turn. If you find one false, say at which input.
  Laid BY PROGRAM, IN A SANDBOX (cutbox-rows.mjs): the forced cells as the released guide's own fill.sh prints them over the translation 97dbf95d1230c7d1… (all of the seat's roots in one cut). By AI agents, Wed Nov 11 2026. No macro, syntax, notation, axiom, sorry.
-/
import Derived.Test.YtpfdieaiogfihaaChecked
import GoSem.Claim
import GoSem.ClaimJoined
import GoSem.ClaimMapViews
import Derived.JoinedTies
import Derived.KernelRfl
namespace Go.Proofs.Ytpfdieaiogfihaa
/- THE CELL 'sum', in the pinned program and in every row, IS THE sha256 OF THE DUMP (.gsa) THAT YtpfdieaiogfihaaProg.lean LOADS. Nothing in Lean hashes anything: it is a label: what it is worth is what the hold of that sum in a sandbox is worth. -/
noncomputable def Try.pinned : Pinned := { name := "ytpfdieaiogfihaa", sum := "97dbf95d1230c7d153ad9d49e17b433212291c55c0a284b1038d333b016edb9a", checked := Try.checked }
namespace Rows
def none {H : Type} : Left H := { results := [], args := [] }

/-- 'laws.FnExactIsMonad': WHATEVER THE INPUT: true; the input reads as it did. -/
def fnExactIsMonadSpec : ChangeSpec := { name := "fnExactIsMonad", fn := fun _ => fun
  | [d] => { results := [.lit (.bool true)], args := [d] }
  | _ => none }
def fnExactIsMonadRow : OpenClaim := { program := "ytpfdieaiogfihaa", sum := "97dbf95d1230c7d153ad9d49e17b433212291c55c0a284b1038d333b016edb9a", func := "loop.example/g01083/laws.FnExactIsMonad", spec := "fnExactIsMonad", unfollowed := true, recurses := true, apart := false }
def FnExactIsMonadSaid : Prop := fnExactIsMonadRow.holds Try.pinned (OpenSpec.ofChange fnExactIsMonadSpec)

/-- ITS FALSE NEIGHBOUR: 'it returns false'. Refute it at one input. -/
def fnExactIsMonadWrong : ChangeSpec := { name := "fnExactIsMonad", fn := fun _ => fun
  | [d] => { results := [.lit (.bool false)], args := [d] }
  | _ => none }
def FnExactIsMonadWrongFalsely : Prop := fnExactIsMonadRow.holds Try.pinned (OpenSpec.ofChange fnExactIsMonadWrong)

/-- 'laws.FnExactIsAdjunction': WHATEVER THE INPUT: true; the input reads as it did. -/
def fnExactIsAdjunctionSpec : ChangeSpec := { name := "fnExactIsAdjunction", fn := fun _ => fun
  | [d] => { results := [.lit (.bool true)], args := [d] }
  | _ => none }
def fnExactIsAdjunctionRow : OpenClaim := { program := "ytpfdieaiogfihaa", sum := "97dbf95d1230c7d153ad9d49e17b433212291c55c0a284b1038d333b016edb9a", func := "loop.example/g01083/laws.FnExactIsAdjunction", spec := "fnExactIsAdjunction", unfollowed := true, recurses := true, apart := false }
def FnExactIsAdjunctionSaid : Prop := fnExactIsAdjunctionRow.holds Try.pinned (OpenSpec.ofChange fnExactIsAdjunctionSpec)

/-- ITS FALSE NEIGHBOUR: 'it returns false'. Refute it at one input. -/
def fnExactIsAdjunctionWrong : ChangeSpec := { name := "fnExactIsAdjunction", fn := fun _ => fun
  | [d] => { results := [.lit (.bool false)], args := [d] }
  | _ => none }
def FnExactIsAdjunctionWrongFalsely : Prop := fnExactIsAdjunctionRow.holds Try.pinned (OpenSpec.ofChange fnExactIsAdjunctionWrong)

/-- 'laws.FnExactFreeAlgebra': WHATEVER THE INPUT: true; the input reads as it did. -/
def fnExactFreeAlgebraSpec : ChangeSpec := { name := "fnExactFreeAlgebra", fn := fun _ => fun
  | [d1, d2] => { results := [.lit (.bool true)], args := [d1, d2] }
  | _ => none }
def fnExactFreeAlgebraRow : OpenClaim := { program := "ytpfdieaiogfihaa", sum := "97dbf95d1230c7d153ad9d49e17b433212291c55c0a284b1038d333b016edb9a", func := "loop.example/g01083/laws.FnExactFreeAlgebra", spec := "fnExactFreeAlgebra", unfollowed := true, recurses := true, apart := false }
def FnExactFreeAlgebraSaid : Prop := fnExactFreeAlgebraRow.holds Try.pinned (OpenSpec.ofChange fnExactFreeAlgebraSpec)

/-- ITS FALSE NEIGHBOUR: 'it returns false'. Refute it at one input. -/
def fnExactFreeAlgebraWrong : ChangeSpec := { name := "fnExactFreeAlgebra", fn := fun _ => fun
  | [d1, d2] => { results := [.lit (.bool false)], args := [d1, d2] }
  | _ => none }
def FnExactFreeAlgebraWrongFalsely : Prop := fnExactFreeAlgebraRow.holds Try.pinned (OpenSpec.ofChange fnExactFreeAlgebraWrong)

/-- 'laws.FnExactBindArrows': WHATEVER THE INPUT: true; the input reads as it did. -/
def fnExactBindArrowsSpec : ChangeSpec := { name := "fnExactBindArrows", fn := fun _ => fun
  | [d1, d2, d3, d4, d5] => { results := [.lit (.bool true)], args := [d1, d2, d3, d4, d5] }
  | _ => none }
def fnExactBindArrowsRow : OpenClaim := { program := "ytpfdieaiogfihaa", sum := "97dbf95d1230c7d153ad9d49e17b433212291c55c0a284b1038d333b016edb9a", func := "loop.example/g01083/laws.FnExactBindArrows", spec := "fnExactBindArrows", unfollowed := true, recurses := true, apart := false }
def FnExactBindArrowsSaid : Prop := fnExactBindArrowsRow.holds Try.pinned (OpenSpec.ofChange fnExactBindArrowsSpec)

/-- ITS FALSE NEIGHBOUR: 'it returns false'. Refute it at one input. -/
def fnExactBindArrowsWrong : ChangeSpec := { name := "fnExactBindArrows", fn := fun _ => fun
  | [d1, d2, d3, d4, d5] => { results := [.lit (.bool false)], args := [d1, d2, d3, d4, d5] }
  | _ => none }
def FnExactBindArrowsWrongFalsely : Prop := fnExactBindArrowsRow.holds Try.pinned (OpenSpec.ofChange fnExactBindArrowsWrong)

/-- 'laws.FnExactIsAlgebra': WHATEVER THE INPUT: true; the input reads as it did. -/
def fnExactIsAlgebraSpec : ChangeSpec := { name := "fnExactIsAlgebra", fn := fun _ => fun
  | [d1, d2, d3] => { results := [.lit (.bool true)], args := [d1, d2, d3] }
  | _ => none }
def fnExactIsAlgebraRow : OpenClaim := { program := "ytpfdieaiogfihaa", sum := "97dbf95d1230c7d153ad9d49e17b433212291c55c0a284b1038d333b016edb9a", func := "loop.example/g01083/laws.FnExactIsAlgebra", spec := "fnExactIsAlgebra", unfollowed := true, recurses := true, apart := false }
def FnExactIsAlgebraSaid : Prop := fnExactIsAlgebraRow.holds Try.pinned (OpenSpec.ofChange fnExactIsAlgebraSpec)

/-- ITS FALSE NEIGHBOUR: 'it returns false'. Refute it at one input. -/
def fnExactIsAlgebraWrong : ChangeSpec := { name := "fnExactIsAlgebra", fn := fun _ => fun
  | [d1, d2, d3] => { results := [.lit (.bool false)], args := [d1, d2, d3] }
  | _ => none }
def FnExactIsAlgebraWrongFalsely : Prop := fnExactIsAlgebraRow.holds Try.pinned (OpenSpec.ofChange fnExactIsAlgebraWrong)

/-- 'laws.FnExactFreeExtension': WHATEVER THE INPUT: true; the input reads as it did. -/
def fnExactFreeExtensionSpec : ChangeSpec := { name := "fnExactFreeExtension", fn := fun _ => fun
  | [d1, d2, d3, d4, d5] => { results := [.lit (.bool true)], args := [d1, d2, d3, d4, d5] }
  | _ => none }
def fnExactFreeExtensionRow : OpenClaim := { program := "ytpfdieaiogfihaa", sum := "97dbf95d1230c7d153ad9d49e17b433212291c55c0a284b1038d333b016edb9a", func := "loop.example/g01083/laws.FnExactFreeExtension", spec := "fnExactFreeExtension", unfollowed := true, recurses := true, apart := false }
def FnExactFreeExtensionSaid : Prop := fnExactFreeExtensionRow.holds Try.pinned (OpenSpec.ofChange fnExactFreeExtensionSpec)

/-- ITS FALSE NEIGHBOUR: 'it returns false'. Refute it at one input. -/
def fnExactFreeExtensionWrong : ChangeSpec := { name := "fnExactFreeExtension", fn := fun _ => fun
  | [d1, d2, d3, d4, d5] => { results := [.lit (.bool false)], args := [d1, d2, d3, d4, d5] }
  | _ => none }
def FnExactFreeExtensionWrongFalsely : Prop := fnExactFreeExtensionRow.holds Try.pinned (OpenSpec.ofChange fnExactFreeExtensionWrong)

/-- 'laws.FnExactIsMonadMap': WHATEVER THE INPUT: true; the input reads as it did. -/
def fnExactIsMonadMapSpec : ChangeSpec := { name := "fnExactIsMonadMap", fn := fun _ => fun
  | [d1, d2, d3] => { results := [.lit (.bool true)], args := [d1, d2, d3] }
  | _ => none }
def fnExactIsMonadMapRow : OpenClaim := { program := "ytpfdieaiogfihaa", sum := "97dbf95d1230c7d153ad9d49e17b433212291c55c0a284b1038d333b016edb9a", func := "loop.example/g01083/laws.FnExactIsMonadMap", spec := "fnExactIsMonadMap", unfollowed := true, recurses := true, apart := false }
def FnExactIsMonadMapSaid : Prop := fnExactIsMonadMapRow.holds Try.pinned (OpenSpec.ofChange fnExactIsMonadMapSpec)

/-- ITS FALSE NEIGHBOUR: 'it returns false'. Refute it at one input. -/
def fnExactIsMonadMapWrong : ChangeSpec := { name := "fnExactIsMonadMap", fn := fun _ => fun
  | [d1, d2, d3] => { results := [.lit (.bool false)], args := [d1, d2, d3] }
  | _ => none }
def FnExactIsMonadMapWrongFalsely : Prop := fnExactIsMonadMapRow.holds Try.pinned (OpenSpec.ofChange fnExactIsMonadMapWrong)

/-- 'laws.FnExactTransposeArrow': WHATEVER THE INPUT: true; the input reads as it did. -/
def fnExactTransposeArrowSpec : ChangeSpec := { name := "fnExactTransposeArrow", fn := fun _ => fun
  | [d1, d2, d3, d4] => { results := [.lit (.bool true)], args := [d1, d2, d3, d4] }
  | _ => none }
def fnExactTransposeArrowRow : OpenClaim := { program := "ytpfdieaiogfihaa", sum := "97dbf95d1230c7d153ad9d49e17b433212291c55c0a284b1038d333b016edb9a", func := "loop.example/g01083/laws.FnExactTransposeArrow", spec := "fnExactTransposeArrow", unfollowed := true, recurses := true, apart := false }
def FnExactTransposeArrowSaid : Prop := fnExactTransposeArrowRow.holds Try.pinned (OpenSpec.ofChange fnExactTransposeArrowSpec)

/-- ITS FALSE NEIGHBOUR: 'it returns false'. Refute it at one input. -/
def fnExactTransposeArrowWrong : ChangeSpec := { name := "fnExactTransposeArrow", fn := fun _ => fun
  | [d1, d2, d3, d4] => { results := [.lit (.bool false)], args := [d1, d2, d3, d4] }
  | _ => none }
def FnExactTransposeArrowWrongFalsely : Prop := fnExactTransposeArrowRow.holds Try.pinned (OpenSpec.ofChange fnExactTransposeArrowWrong)

/-- 'laws.FnExactTransposeBack': WHATEVER THE INPUT: true; the input reads as it did. -/
def fnExactTransposeBackSpec : ChangeSpec := { name := "fnExactTransposeBack", fn := fun _ => fun
  | [d1, d2, d3, d4] => { results := [.lit (.bool true)], args := [d1, d2, d3, d4] }
  | _ => none }
def fnExactTransposeBackRow : OpenClaim := { program := "ytpfdieaiogfihaa", sum := "97dbf95d1230c7d153ad9d49e17b433212291c55c0a284b1038d333b016edb9a", func := "loop.example/g01083/laws.FnExactTransposeBack", spec := "fnExactTransposeBack", unfollowed := true, recurses := true, apart := false }
def FnExactTransposeBackSaid : Prop := fnExactTransposeBackRow.holds Try.pinned (OpenSpec.ofChange fnExactTransposeBackSpec)

/-- ITS FALSE NEIGHBOUR: 'it returns false'. Refute it at one input. -/
def fnExactTransposeBackWrong : ChangeSpec := { name := "fnExactTransposeBack", fn := fun _ => fun
  | [d1, d2, d3, d4] => { results := [.lit (.bool false)], args := [d1, d2, d3, d4] }
  | _ => none }
def FnExactTransposeBackWrongFalsely : Prop := fnExactTransposeBackRow.holds Try.pinned (OpenSpec.ofChange fnExactTransposeBackWrong)

/-- 'laws.FnExactIsIdempotentMonad': WHATEVER THE INPUT: true; the input reads as it did. -/
def fnExactIsIdempotentMonadSpec : ChangeSpec := { name := "fnExactIsIdempotentMonad", fn := fun _ => fun
  | [d] => { results := [.lit (.bool true)], args := [d] }
  | _ => none }
def fnExactIsIdempotentMonadRow : OpenClaim := { program := "ytpfdieaiogfihaa", sum := "97dbf95d1230c7d153ad9d49e17b433212291c55c0a284b1038d333b016edb9a", func := "loop.example/g01083/laws.FnExactIsIdempotentMonad", spec := "fnExactIsIdempotentMonad", unfollowed := true, recurses := true, apart := false }
def FnExactIsIdempotentMonadSaid : Prop := fnExactIsIdempotentMonadRow.holds Try.pinned (OpenSpec.ofChange fnExactIsIdempotentMonadSpec)

/-- ITS FALSE NEIGHBOUR: 'it returns false'. Refute it at one input. -/
def fnExactIsIdempotentMonadWrong : ChangeSpec := { name := "fnExactIsIdempotentMonad", fn := fun _ => fun
  | [d] => { results := [.lit (.bool false)], args := [d] }
  | _ => none }
def FnExactIsIdempotentMonadWrongFalsely : Prop := fnExactIsIdempotentMonadRow.holds Try.pinned (OpenSpec.ofChange fnExactIsIdempotentMonadWrong)

/-- 'laws.FnExactIsDistributiveLaw': WHATEVER THE INPUT: true; the input reads as it did. -/
def fnExactIsDistributiveLawSpec : ChangeSpec := { name := "fnExactIsDistributiveLaw", fn := fun _ => fun
  | [d1, d2, d3] => { results := [.lit (.bool true)], args := [d1, d2, d3] }
  | _ => none }
def fnExactIsDistributiveLawRow : OpenClaim := { program := "ytpfdieaiogfihaa", sum := "97dbf95d1230c7d153ad9d49e17b433212291c55c0a284b1038d333b016edb9a", func := "loop.example/g01083/laws.FnExactIsDistributiveLaw", spec := "fnExactIsDistributiveLaw", unfollowed := true, recurses := true, apart := false }
def FnExactIsDistributiveLawSaid : Prop := fnExactIsDistributiveLawRow.holds Try.pinned (OpenSpec.ofChange fnExactIsDistributiveLawSpec)

/-- ITS FALSE NEIGHBOUR: 'it returns false'. Refute it at one input. -/
def fnExactIsDistributiveLawWrong : ChangeSpec := { name := "fnExactIsDistributiveLaw", fn := fun _ => fun
  | [d1, d2, d3] => { results := [.lit (.bool false)], args := [d1, d2, d3] }
  | _ => none }
def FnExactIsDistributiveLawWrongFalsely : Prop := fnExactIsDistributiveLawRow.holds Try.pinned (OpenSpec.ofChange fnExactIsDistributiveLawWrong)

/-- 'laws.FnExactIsReflection': WHATEVER THE INPUT: true; the input reads as it did. -/
def fnExactIsReflectionSpec : ChangeSpec := { name := "fnExactIsReflection", fn := fun _ => fun
  | [d] => { results := [.lit (.bool true)], args := [d] }
  | _ => none }
def fnExactIsReflectionRow : OpenClaim := { program := "ytpfdieaiogfihaa", sum := "97dbf95d1230c7d153ad9d49e17b433212291c55c0a284b1038d333b016edb9a", func := "loop.example/g01083/laws.FnExactIsReflection", spec := "fnExactIsReflection", unfollowed := true, recurses := true, apart := false }
def FnExactIsReflectionSaid : Prop := fnExactIsReflectionRow.holds Try.pinned (OpenSpec.ofChange fnExactIsReflectionSpec)

/-- ITS FALSE NEIGHBOUR: 'it returns false'. Refute it at one input. -/
def fnExactIsReflectionWrong : ChangeSpec := { name := "fnExactIsReflection", fn := fun _ => fun
  | [d] => { results := [.lit (.bool false)], args := [d] }
  | _ => none }
def FnExactIsReflectionWrongFalsely : Prop := fnExactIsReflectionRow.holds Try.pinned (OpenSpec.ofChange fnExactIsReflectionWrong)

/- THE SECOND FORM. 'bulk': how many values and letters a reading holds, each counted each time it is reached (what is shared counts as often as it is met; a slice's spare places count too). A statement '..UptoSaid' is the law's where the arguments, and the package variables that the reading takes, are together of bulk at most 1048576: NARROWER than '..Said'. Prove '..Said' where nothing that the law and all that it calls make is longer than what came in: it says more and counts as full. Else prove '..UptoSaid'. A law counts once. -/
mutual
def uptoBulk {H : Type} : DataW H → Nat
  | .lit (.string bytes) => bytes.length + 1
  | .lit _ => 1
  | .nil => 1
  | .ptr d => uptoBulk d + 1
  | .slice elems spare => uptoBulkAll elems + uptoBulkAll spare + 1
  | .agg parts => uptoBulkAll parts + 1
  | .iface _ d => uptoBulk d + 1
  | .map entries => uptoBulkEntries entries + 1
  | .held _ => 1
def uptoBulkAll {H : Type} : List (DataW H) → Nat
  | [] => 0
  | d :: r => uptoBulk d + uptoBulkAll r
def uptoBulkEntries {H : Type} : List (Lit × DataW H) → Nat
  | [] => 0
  | x :: r => uptoBulkEntry x + uptoBulkEntries r
def uptoBulkEntry {H : Type} : Lit × DataW H → Nat
  | (.string bytes, d) => bytes.length + uptoBulk d + 1
  | (_, d) => uptoBulk d + 1
 end
def uptoSmall : (H : Type) → List (DataW H) → Bool := fun _ ds => decide (uptoBulkAll ds ≤ 1048576)
def OpenSpec.upto (s : _root_.Go.ChangeSpec) : _root_.Go.OpenSpec := { _root_.Go.OpenSpec.ofChange s with cond := some uptoSmall }

/-- 'laws.FnExactIsMonad', WHERE WHAT IT READS IS OF BULK AT MOST 1048576: true; the input reads as it did. -/
def fnExactIsMonadUptoRow : OpenClaim := { program := "ytpfdieaiogfihaa", sum := "97dbf95d1230c7d153ad9d49e17b433212291c55c0a284b1038d333b016edb9a", func := "loop.example/g01083/laws.FnExactIsMonad", spec := "fnExactIsMonad", unfollowed := true, recurses := true, apart := false, narrowed := true }
def FnExactIsMonadUptoSaid : Prop := fnExactIsMonadUptoRow.holds Try.pinned (OpenSpec.upto fnExactIsMonadSpec)

/-- 'laws.FnExactIsAdjunction', WHERE WHAT IT READS IS OF BULK AT MOST 1048576: true; the input reads as it did. -/
def fnExactIsAdjunctionUptoRow : OpenClaim := { program := "ytpfdieaiogfihaa", sum := "97dbf95d1230c7d153ad9d49e17b433212291c55c0a284b1038d333b016edb9a", func := "loop.example/g01083/laws.FnExactIsAdjunction", spec := "fnExactIsAdjunction", unfollowed := true, recurses := true, apart := false, narrowed := true }
def FnExactIsAdjunctionUptoSaid : Prop := fnExactIsAdjunctionUptoRow.holds Try.pinned (OpenSpec.upto fnExactIsAdjunctionSpec)

/-- 'laws.FnExactFreeAlgebra', WHERE WHAT IT READS IS OF BULK AT MOST 1048576: true; the input reads as it did. -/
def fnExactFreeAlgebraUptoRow : OpenClaim := { program := "ytpfdieaiogfihaa", sum := "97dbf95d1230c7d153ad9d49e17b433212291c55c0a284b1038d333b016edb9a", func := "loop.example/g01083/laws.FnExactFreeAlgebra", spec := "fnExactFreeAlgebra", unfollowed := true, recurses := true, apart := false, narrowed := true }
def FnExactFreeAlgebraUptoSaid : Prop := fnExactFreeAlgebraUptoRow.holds Try.pinned (OpenSpec.upto fnExactFreeAlgebraSpec)

/-- 'laws.FnExactBindArrows', WHERE WHAT IT READS IS OF BULK AT MOST 1048576: true; the input reads as it did. -/
def fnExactBindArrowsUptoRow : OpenClaim := { program := "ytpfdieaiogfihaa", sum := "97dbf95d1230c7d153ad9d49e17b433212291c55c0a284b1038d333b016edb9a", func := "loop.example/g01083/laws.FnExactBindArrows", spec := "fnExactBindArrows", unfollowed := true, recurses := true, apart := false, narrowed := true }
def FnExactBindArrowsUptoSaid : Prop := fnExactBindArrowsUptoRow.holds Try.pinned (OpenSpec.upto fnExactBindArrowsSpec)

/-- 'laws.FnExactIsAlgebra', WHERE WHAT IT READS IS OF BULK AT MOST 1048576: true; the input reads as it did. -/
def fnExactIsAlgebraUptoRow : OpenClaim := { program := "ytpfdieaiogfihaa", sum := "97dbf95d1230c7d153ad9d49e17b433212291c55c0a284b1038d333b016edb9a", func := "loop.example/g01083/laws.FnExactIsAlgebra", spec := "fnExactIsAlgebra", unfollowed := true, recurses := true, apart := false, narrowed := true }
def FnExactIsAlgebraUptoSaid : Prop := fnExactIsAlgebraUptoRow.holds Try.pinned (OpenSpec.upto fnExactIsAlgebraSpec)

/-- 'laws.FnExactFreeExtension', WHERE WHAT IT READS IS OF BULK AT MOST 1048576: true; the input reads as it did. -/
def fnExactFreeExtensionUptoRow : OpenClaim := { program := "ytpfdieaiogfihaa", sum := "97dbf95d1230c7d153ad9d49e17b433212291c55c0a284b1038d333b016edb9a", func := "loop.example/g01083/laws.FnExactFreeExtension", spec := "fnExactFreeExtension", unfollowed := true, recurses := true, apart := false, narrowed := true }
def FnExactFreeExtensionUptoSaid : Prop := fnExactFreeExtensionUptoRow.holds Try.pinned (OpenSpec.upto fnExactFreeExtensionSpec)

/-- 'laws.FnExactIsMonadMap', WHERE WHAT IT READS IS OF BULK AT MOST 1048576: true; the input reads as it did. -/
def fnExactIsMonadMapUptoRow : OpenClaim := { program := "ytpfdieaiogfihaa", sum := "97dbf95d1230c7d153ad9d49e17b433212291c55c0a284b1038d333b016edb9a", func := "loop.example/g01083/laws.FnExactIsMonadMap", spec := "fnExactIsMonadMap", unfollowed := true, recurses := true, apart := false, narrowed := true }
def FnExactIsMonadMapUptoSaid : Prop := fnExactIsMonadMapUptoRow.holds Try.pinned (OpenSpec.upto fnExactIsMonadMapSpec)

/-- 'laws.FnExactTransposeArrow', WHERE WHAT IT READS IS OF BULK AT MOST 1048576: true; the input reads as it did. -/
def fnExactTransposeArrowUptoRow : OpenClaim := { program := "ytpfdieaiogfihaa", sum := "97dbf95d1230c7d153ad9d49e17b433212291c55c0a284b1038d333b016edb9a", func := "loop.example/g01083/laws.FnExactTransposeArrow", spec := "fnExactTransposeArrow", unfollowed := true, recurses := true, apart := false, narrowed := true }
def FnExactTransposeArrowUptoSaid : Prop := fnExactTransposeArrowUptoRow.holds Try.pinned (OpenSpec.upto fnExactTransposeArrowSpec)

/-- 'laws.FnExactTransposeBack', WHERE WHAT IT READS IS OF BULK AT MOST 1048576: true; the input reads as it did. -/
def fnExactTransposeBackUptoRow : OpenClaim := { program := "ytpfdieaiogfihaa", sum := "97dbf95d1230c7d153ad9d49e17b433212291c55c0a284b1038d333b016edb9a", func := "loop.example/g01083/laws.FnExactTransposeBack", spec := "fnExactTransposeBack", unfollowed := true, recurses := true, apart := false, narrowed := true }
def FnExactTransposeBackUptoSaid : Prop := fnExactTransposeBackUptoRow.holds Try.pinned (OpenSpec.upto fnExactTransposeBackSpec)

/-- 'laws.FnExactIsIdempotentMonad', WHERE WHAT IT READS IS OF BULK AT MOST 1048576: true; the input reads as it did. -/
def fnExactIsIdempotentMonadUptoRow : OpenClaim := { program := "ytpfdieaiogfihaa", sum := "97dbf95d1230c7d153ad9d49e17b433212291c55c0a284b1038d333b016edb9a", func := "loop.example/g01083/laws.FnExactIsIdempotentMonad", spec := "fnExactIsIdempotentMonad", unfollowed := true, recurses := true, apart := false, narrowed := true }
def FnExactIsIdempotentMonadUptoSaid : Prop := fnExactIsIdempotentMonadUptoRow.holds Try.pinned (OpenSpec.upto fnExactIsIdempotentMonadSpec)

/-- 'laws.FnExactIsDistributiveLaw', WHERE WHAT IT READS IS OF BULK AT MOST 1048576: true; the input reads as it did. -/
def fnExactIsDistributiveLawUptoRow : OpenClaim := { program := "ytpfdieaiogfihaa", sum := "97dbf95d1230c7d153ad9d49e17b433212291c55c0a284b1038d333b016edb9a", func := "loop.example/g01083/laws.FnExactIsDistributiveLaw", spec := "fnExactIsDistributiveLaw", unfollowed := true, recurses := true, apart := false, narrowed := true }
def FnExactIsDistributiveLawUptoSaid : Prop := fnExactIsDistributiveLawUptoRow.holds Try.pinned (OpenSpec.upto fnExactIsDistributiveLawSpec)

/-- 'laws.FnExactIsReflection', WHERE WHAT IT READS IS OF BULK AT MOST 1048576: true; the input reads as it did. -/
def fnExactIsReflectionUptoRow : OpenClaim := { program := "ytpfdieaiogfihaa", sum := "97dbf95d1230c7d153ad9d49e17b433212291c55c0a284b1038d333b016edb9a", func := "loop.example/g01083/laws.FnExactIsReflection", spec := "fnExactIsReflection", unfollowed := true, recurses := true, apart := false, narrowed := true }
def FnExactIsReflectionUptoSaid : Prop := fnExactIsReflectionUptoRow.holds Try.pinned (OpenSpec.upto fnExactIsReflectionSpec)

end Rows
end Go.Proofs.Ytpfdieaiogfihaa
