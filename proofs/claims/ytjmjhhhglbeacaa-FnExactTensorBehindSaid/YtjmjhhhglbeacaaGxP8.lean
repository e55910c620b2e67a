/- The law of HorizontalComposite. -/
import Derived.Test.YtjmjhhhglbeacaaGxPh
namespace Go.Gx
open Classical
set_option maxHeartbeats 1000000

/-- Arrows composed place by place. -/
def cmpL (c : XCategory) (a b : List Int) : List Int := tab (a.length : Int) fun i => cmp c (el a i) (el b i)

theorem el_thenL {a b : List Int} {i : Int} (h0 : 0 ≤ i) (h1 : i < (a.length : Int)) : el (thenL a b) i = el b (el a i) := el_tab h0 h1
/-- Two transformations beside each other. -/
def beside (s t : XTransformation) : XTransformation :=
  ⟨thenF s.Source t.Source, thenF s.Target t.Target, cmpL t.Source.Target (thenL s.Components t.Source.Arrows) (thenL s.Target.Objects t.Components)⟩

structure Next (s t : XTransformation) : Prop where
  m1 : Meet s.Source t.Source
  m2 : Meet s.Target t.Source
  m3 : Meet s.Target t.Target
  c1 : In (t.Source.Arrows.length : Int) s.Components
  c2 : In (t.Components.length : Int) s.Target.Objects
  sh : Shp t.Source.Target
  ll : (thenL s.Components t.Source.Arrows).length = (thenL s.Target.Objects t.Components).length
  i1 : In (t.Source.Target.From.length : Int) (thenL s.Components t.Source.Arrows)
  i2 : In (t.Source.Target.From.length : Int) (thenL s.Target.Objects t.Components)

end Go.Gx
