/- Models of the functions. Printed by wip/gen. -/
import Derived.Test.YtjmjhhhglbeacaaGxNuM
import Derived.Test.YtjmjhhhglbeacaaGxE1
namespace Go.Gx

structure XProfunctor where
  Source : XCategory
  Target : XCategory
  Sizes : List (List Int)
  Before : List (List (List Int))
  Behind : List (List (List Int))
def R.XProfunctor (x : XProfunctor) : Prop := (R.XCategory x.Source) ∧ (R.XCategory x.Target) ∧ (AllL (AllL I64) x.Sizes) ∧ (AllL (AllL (AllL I64)) x.Before) ∧ (AllL (AllL (AllL I64)) x.Behind)
end Go.Gx
