/- Models of the functions. Printed by wip/gen. -/
import Derived.Test.YtjmjhhhglbeacaaGxBM
import Derived.Test.YtjmjhhhglbeacaaGxE1
namespace Go.Gx

structure XTransformation where
  Source : XFunctor
  Target : XFunctor
  Components : List Int
def R.XTransformation (x : XTransformation) : Prop := (R.XFunctor x.Source) ∧ (R.XFunctor x.Target) ∧ (AllL I64 x.Components)
end Go.Gx
