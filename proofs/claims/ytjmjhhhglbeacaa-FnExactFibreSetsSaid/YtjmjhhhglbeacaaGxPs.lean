/- Plain laws: set functors. -/
import Derived.Test.YtjmjhhhglbeacaaGxPu
import Derived.Test.YtjmjhhhglbeacaaGxL10M
namespace Go.Gx
open Classical
set_option maxHeartbeats 4000000

structure SmallG (F : XSetFunctor) : Prop where
  s1 : SmallC F.Shape
  s2 : Small F.Sizes
  s3 : Small F.Actions
  s4 : ∀ r ∈ F.Actions, Small r
structure FitsG (F : XSetFunctor) : Prop where
  f1 : FitsC F.Shape
  f2 : Fits F.Sizes
  f3 : Fits F.Actions
  f4 : ∀ r ∈ F.Actions, Fits r
theorem eqSetFunctor_refl {F : XSetFunctor} (h : SmallG F) : M.laws_eqSetFunctor F F = some true := by
  unfold M.laws_eqSetFunctor
  rw [eqCategory_refl h.s1, eqInt64S_refl h.s2, eqInt64SS_refl h.s3 h.s4]; simp

theorem mh_G {F : XSetFunctor} (h : SmallG F) : MH 2199028498432 M.laws_markSetFunctor M.laws_heldSetFunctor (fun x y => y.Shape.Objects = x.Shape.Objects) F := by
  intro k h0 h1
  obtain ⟨n1, l1, a1, b1, e1, f1, g1⟩ := mh_C h.s1 k h0 (by omega)
  obtain ⟨n2, l2, a2, b2, e2, f2, _⟩ := mh_S h.s2 (k + n1) (by omega) (by omega)
  obtain ⟨n3, l3, a3, b3, e3, f3, _⟩ := mh_SS h.s3 h.s4 (k + n1 + n2) (by omega) (by omega)
  refine ⟨n1 + n2 + n3, ⟨l1, l2, l3⟩, by omega, by omega, ?_, ?_, g1⟩
  · unfold M.laws_markSetFunctor
    simp only [e1, e2, e3, Option.bind_some, Option.some.injEq, Prod.mk.injEq]
    refine ⟨by omega, ?_⟩
    rw [← g1]
  · unfold M.laws_heldSetFunctor
    simp only [f1, f2, f3, Option.bind_some, decide_eq_true_eq]
    rw [if_neg (by omega), if_neg (by omega), if_neg (by omega)]
    simp only [Option.some.injEq]; omega

/-! ### which are set functors -/
def ActOk (F : XSetFunctor) (a : Int) : Prop := ((el F.Actions a).length : Int) = el F.Sizes (el F.Shape.From a) ∧ In (el F.Sizes (el F.Shape.To a)) (el F.Actions a)
structure ShpG (F : XSetFunctor) : Prop where
  cat : IsCat F.Shape
  ls : (F.Sizes.length : Int) = F.Shape.Objects
  la : (F.Actions.length : Int) = (F.Shape.From.length : Int)
  siz : ∀ i, 0 ≤ i → i < (F.Sizes.length : Int) → 0 ≤ el F.Sizes i ∧ el F.Sizes i ≤ 16
  act : ∀ a, 0 ≤ a → a < (F.Actions.length : Int) → ActOk F a

/-- The image of e under the action of a. -/
abbrev act (F : XSetFunctor) (a e : Int) : Int := el (el F.Actions a) e
end Go.Gx
