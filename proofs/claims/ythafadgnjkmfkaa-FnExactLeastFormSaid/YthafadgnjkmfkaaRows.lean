/-
  No cell of these rows narrows 'for every input' (looked for: loops, veiled, ifaces, maps, wideKeys, modest, calm, conditions, laid).
  DERIVED. THE GIVEN ROWS OF THIS SEAT. 3 by the template 'for every input the law returns true; each argument reads behind the call as it read before'; 0 by the template 'total and deterministic' (their statements: YthafadgnjkmfkaaTotals.lean).
  GIVEN WITH THE SEED: the statements are not yours to turn. If you find one false, say at which input.
  Laid BY PROGRAM, IN A SANDBOX (cutbox-rows.mjs): the forced cells as the released guide's own fill.sh prints them over the translation d2924f0b27d8201d… (all of the seat's roots in one cut). By AI agents, Wed Nov 11 2026. No macro, syntax, notation, axiom, sorry.
-/
import Derived.Test.YthafadgnjkmfkaaChecked
import GoSem.Claim
import GoSem.ClaimJoined
import GoSem.ClaimMapViews
import Derived.JoinedTies
import Derived.KernelRfl
namespace Go.Proofs.Ythafadgnjkmfkaa
/- THE CELL 'sum', in the pinned program and in every row, IS THE sha256 OF THE DUMP (.gsa) THAT YthafadgnjkmfkaaProg.lean LOADS. Nothing in Lean hashes anything: it is a label: what it is worth is what the hold of that sum in a sandbox is worth. -/
noncomputable def Try.pinned : Pinned := { name := "ythafadgnjkmfkaa", sum := "d2924f0b27d8201dd745ae8611748cb9eec9984a23c0a06a32be56092c24ae2b", checked := Try.checked }
namespace Rows
def none {H : Type} : Left H := { results := [], args := [] }

/-- 'laws.FnExactElementsProjection': WHATEVER THE INPUT: true; the input reads as it did. -/
def fnExactElementsProjectionSpec : ChangeSpec := { name := "fnExactElementsProjection", fn := fun _ => fun
  | [d] => { results := [.lit (.bool true)], args := [d] }
  | _ => none }
def fnExactElementsProjectionRow : OpenClaim := { program := "ythafadgnjkmfkaa", sum := "d2924f0b27d8201dd745ae8611748cb9eec9984a23c0a06a32be56092c24ae2b", func := "loop.example/g01083/laws.FnExactElementsProjection", spec := "fnExactElementsProjection", unfollowed := true, recurses := true, plainKeys := false, apart := false }
def FnExactElementsProjectionSaid : Prop := fnExactElementsProjectionRow.holds Try.pinned (OpenSpec.ofChange fnExactElementsProjectionSpec)

/-- ITS FALSE NEIGHBOUR: 'it returns false'. Refute it at one input. -/
def fnExactElementsProjectionWrong : ChangeSpec := { name := "fnExactElementsProjection", fn := fun _ => fun
  | [d] => { results := [.lit (.bool false)], args := [d] }
  | _ => none }
def FnExactElementsProjectionWrongFalsely : Prop := fnExactElementsProjectionRow.holds Try.pinned (OpenSpec.ofChange fnExactElementsProjectionWrong)

/-- 'laws.FnExactIsImplied': WHATEVER THE INPUT: true; the input reads as it did. -/
def fnExactIsImpliedSpec : ChangeSpec := { name := "fnExactIsImplied", fn := fun _ => fun
  | [d1, d2, d3, d4] => { results := [.lit (.bool true)], args := [d1, d2, d3, d4] }
  | _ => none }
def fnExactIsImpliedRow : OpenClaim := { program := "ythafadgnjkmfkaa", sum := "d2924f0b27d8201dd745ae8611748cb9eec9984a23c0a06a32be56092c24ae2b", func := "loop.example/g01083/laws.FnExactIsImplied", spec := "fnExactIsImplied", plainKeys := false, apart := false }
def FnExactIsImpliedSaid : Prop := fnExactIsImpliedRow.holds Try.pinned (OpenSpec.ofChange fnExactIsImpliedSpec)

/-- ITS FALSE NEIGHBOUR: 'it returns false'. Refute it at one input. -/
def fnExactIsImpliedWrong : ChangeSpec := { name := "fnExactIsImplied", fn := fun _ => fun
  | [d1, d2, d3, d4] => { results := [.lit (.bool false)], args := [d1, d2, d3, d4] }
  | _ => none }
def FnExactIsImpliedWrongFalsely : Prop := fnExactIsImpliedRow.holds Try.pinned (OpenSpec.ofChange fnExactIsImpliedWrong)

/-- 'laws.FnExactLeastForm': WHATEVER THE INPUT: true; the input reads as it did. -/
def fnExactLeastFormSpec : ChangeSpec := { name := "fnExactLeastForm", fn := fun _ => fun
  | [d] => { results := [.lit (.bool true)], args := [d] }
  | _ => none }
def fnExactLeastFormRow : OpenClaim := { program := "ythafadgnjkmfkaa", sum := "d2924f0b27d8201dd745ae8611748cb9eec9984a23c0a06a32be56092c24ae2b", func := "loop.example/g01083/laws.FnExactLeastForm", spec := "fnExactLeastForm", unfollowed := true, recurses := true, plainKeys := false, apart := false }
def FnExactLeastFormSaid : Prop := fnExactLeastFormRow.holds Try.pinned (OpenSpec.ofChange fnExactLeastFormSpec)

/-- ITS FALSE NEIGHBOUR: 'it returns false'. Refute it at one input. -/
def fnExactLeastFormWrong : ChangeSpec := { name := "fnExactLeastForm", fn := fun _ => fun
  | [d] => { results := [.lit (.bool false)], args := [d] }
  | _ => none }
def FnExactLeastFormWrongFalsely : Prop := fnExactLeastFormRow.holds Try.pinned (OpenSpec.ofChange fnExactLeastFormWrong)

/- THE SECOND FORM. 'bulk': how many values and letters a reading holds, each counted each time it is reached (what is shared counts as often as it is met; a slice's spare places count too). A statement '..UptoSaid' is the law's where the arguments, and the package variables that the reading takes, are together of bulk at most 1048576: NARROWER than '..Said'. Prove '..Said' where nothing that the law and all that it calls make is longer than what came in: it says more and counts as full. Else prove '..UptoSaid'. A law counts once. -/
mutual
def uptoBulk {H : Type} : DataW H → Nat
  | .lit (.string bytes) => bytes.length + 1
  | .lit _ => 1
  | .nil => 1
  | .ptr d => uptoBulk d + 1
  | .slice elems spare => uptoBulkAll elems + uptoBulkAll spare + 1
  | .agg parts => uptoBulkAll parts + 1
  | .iface _ d => uptoBulk d + 1
  | .map entries => uptoBulkEntries entries + 1
  | .held _ => 1
def uptoBulkAll {H : Type} : List (DataW H) → Nat
  | [] => 0
  | d :: r => uptoBulk d + uptoBulkAll r
def uptoBulkEntries {H : Type} : List (Lit × DataW H) → Nat
  | [] => 0
  | x :: r => uptoBulkEntry x + uptoBulkEntries r
def uptoBulkEntry {H : Type} : Lit × DataW H → Nat
  | (.string bytes, d) => bytes.length + uptoBulk d + 1
  | (_, d) => uptoBulk d + 1
 end
def uptoSmall : (H : Type) → List (DataW H) → Bool := fun _ ds => decide (uptoBulkAll ds ≤ 1048576)
def OpenSpec.upto (s : _root_.Go.ChangeSpec) : _root_.Go.OpenSpec := { _root_.Go.OpenSpec.ofChange s with cond := some uptoSmall }

/-- 'laws.FnExactElementsProjection', WHERE WHAT IT READS IS OF BULK AT MOST 1048576: true; the input reads as it did. -/
def fnExactElementsProjectionUptoRow : OpenClaim := { program := "ythafadgnjkmfkaa", sum := "d2924f0b27d8201dd745ae8611748cb9eec9984a23c0a06a32be56092c24ae2b", func := "loop.example/g01083/laws.FnExactElementsProjection", spec := "fnExactElementsProjection", unfollowed := true, recurses := true, plainKeys := false, apart := false, narrowed := true }
def FnExactElementsProjectionUptoSaid : Prop := fnExactElementsProjectionUptoRow.holds Try.pinned (OpenSpec.upto fnExactElementsProjectionSpec)

/-- 'laws.FnExactIsImplied', WHERE WHAT IT READS IS OF BULK AT MOST 1048576: true; the input reads as it did. -/
def fnExactIsImpliedUptoRow : OpenClaim := { program := "ythafadgnjkmfkaa", sum := "d2924f0b27d8201dd745ae8611748cb9eec9984a23c0a06a32be56092c24ae2b", func := "loop.example/g01083/laws.FnExactIsImplied", spec := "fnExactIsImplied", plainKeys := false, apart := false, narrowed := true }
def FnExactIsImpliedUptoSaid : Prop := fnExactIsImpliedUptoRow.holds Try.pinned (OpenSpec.upto fnExactIsImpliedSpec)

/-- 'laws.FnExactLeastForm', WHERE WHAT IT READS IS OF BULK AT MOST 1048576: true; the input reads as it did. -/
def fnExactLeastFormUptoRow : OpenClaim := { program := "ythafadgnjkmfkaa", sum := "d2924f0b27d8201dd745ae8611748cb9eec9984a23c0a06a32be56092c24ae2b", func := "loop.example/g01083/laws.FnExactLeastForm", spec := "fnExactLeastForm", unfollowed := true, recurses := true, plainKeys := false, apart := false, narrowed := true }
def FnExactLeastFormUptoSaid : Prop := fnExactLeastFormUptoRow.holds Try.pinned (OpenSpec.upto fnExactLeastFormSpec)

end Rows
end Go.Proofs.Ythafadgnjkmfkaa
