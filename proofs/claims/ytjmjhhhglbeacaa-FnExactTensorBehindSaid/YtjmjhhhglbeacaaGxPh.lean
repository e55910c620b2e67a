/- Plain laws: sameness; natural transformations; functors after each other. -/
import Derived.Test.YtjmjhhhglbeacaaGxPg
import Derived.Test.YtjmjhhhglbeacaaGxL8M
namespace Go.Gx
open Classical
set_option maxHeartbeats 4000000

instance : Inhabited XFunctor := ⟨zeroF⟩
instance : Inhabited XTransformation := ⟨zeroT⟩

/-! ### sizes -/
structure FitsT (t : XTransformation) : Prop where
  f1 : FitsF t.Source
  f2 : FitsF t.Target
  f3 : Fits t.Components
/-! ### the same -/
def Par (f g : XFunctor) : Prop := f.Source = g.Source ∧ f.Target = g.Target

/-! ### lists of functors -/
/-! ### natural transformations -/
def Ends (f g : XFunctor) (c : List Int) : Prop :=
  (c.length : Int) = f.Source.Objects ∧ In (f.Target.From.length : Int) c ∧ ∀ i, 0 ≤ i → i < (c.length : Int) → el f.Target.From (el c i) = el f.Objects i ∧ el f.Target.To (el c i) = el g.Objects i

def ShapeT (t : XTransformation) : Prop := IsFun t.Source ∧ IsFun t.Target ∧ Par t.Source t.Target ∧ Ends t.Source t.Target t.Components

def Sq (f g : XFunctor) (c : List Int) (a : Int) : Prop := cmp f.Target (el f.Arrows a) (el c (el f.Source.To a)) = cmp f.Target (el c (el f.Source.From a)) (el g.Arrows a)

/-- What the indices of a square need. -/
theorem ShapeT.facts {t : XTransformation} (h : ShapeT t) {a : Int} (h0 : 0 ≤ a) (h1 : a < (t.Source.Arrows.length : Int)) :
    a < (t.Source.Source.From.length : Int) ∧ a < (t.Source.Source.To.length : Int) ∧ a < (t.Target.Arrows.length : Int) ∧
    (0 ≤ el t.Source.Arrows a ∧ el t.Source.Arrows a < (t.Source.Target.From.length : Int)) ∧
    (0 ≤ el t.Target.Arrows a ∧ el t.Target.Arrows a < (t.Source.Target.From.length : Int)) ∧
    (0 ≤ el t.Source.Source.To a ∧ el t.Source.Source.To a < (t.Components.length : Int)) ∧
    (0 ≤ el t.Source.Source.From a ∧ el t.Source.Source.From a < (t.Components.length : Int)) ∧
    (0 ≤ el t.Components (el t.Source.Source.To a) ∧ el t.Components (el t.Source.Source.To a) < (t.Source.Target.From.length : Int)) ∧
    (0 ≤ el t.Components (el t.Source.Source.From a) ∧ el t.Components (el t.Source.Source.From a) < (t.Source.Target.From.length : Int)) := by
  obtain ⟨hS, hT, hp, hc⟩ := h
  have k1 := hS.1.1.shp
  have l1 := k1.lto
  have l2 := hS.2.2.la
  have l3 := hT.2.2.la
  have l4 := hT.2.2.ina a h0
  have l5 := hS.2.2.ina a h0 h1
  have p1 : t.Source.Source = t.Target.Source := hp.1
  have p2 : t.Source.Target = t.Target.Target := hp.2
  rw [← p1] at l3
  rw [← p2] at l4
  have m1 := k1.to_in a h0 (by omega)
  have m2 := k1.from_in a h0 (by omega)
  have l6 := hc.1
  have n1 := hc.2.1 (el t.Source.Source.To a) m1.1 (by omega)
  have n2 := hc.2.1 (el t.Source.Source.From a) m2.1 (by omega)
  exact ⟨by omega, by omega, by omega, l5, l4 (by omega), ⟨m1.1, by omega⟩, ⟨m2.1, by omega⟩, n1, n2⟩

def Squares (t : XTransformation) : Prop := ∀ a, 0 ≤ a → a < (t.Source.Arrows.length : Int) → Sq t.Source t.Target t.Components a

def IsNat (t : XTransformation) : Prop := ShapeT t ∧ Squares t

/-! ### functors after each other -/
def thenF (f g : XFunctor) : XFunctor := ⟨f.Source, g.Target, thenL f.Objects g.Objects, thenL f.Arrows g.Arrows⟩
/-- f ends where g begins. -/
structure Meet (f g : XFunctor) : Prop where
  o : In (g.Objects.length : Int) f.Objects
  a : In (g.Arrows.length : Int) f.Arrows

end Go.Gx
