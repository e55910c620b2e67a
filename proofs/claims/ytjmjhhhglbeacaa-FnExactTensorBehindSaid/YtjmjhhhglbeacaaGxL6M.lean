/- Models of the functions. Printed by wip/gen. -/
import Derived.Test.YtjmjhhhglbeacaaGxBM
import Derived.Test.YtjmjhhhglbeacaaGxE1
namespace Go.Gx

structure XTransformation where
  Source : XFunctor
  Target : XFunctor
  Components : List Int
def R.XTransformation (x : XTransformation) : Prop := (R.XFunctor x.Source) ∧ (R.XFunctor x.Target) ∧ (AllL I64 x.Components)
def M.impl_Functor_copy (a0 : XFunctor) : Option XFunctor :=
  (M.impl_functor a0.Source a0.Target a0.Objects a0.Arrows).bind fun v1 =>
  some v1

end Go.Gx
