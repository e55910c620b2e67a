/- Models of the functions. Printed by wip/gen. -/
import Derived.Test.YtjmjhhhglbeacaaGxBM
import Derived.Test.YtjmjhhhglbeacaaGxE1
namespace Go.Gx

def M.spec_l02Object (a0 : XCategory) (a1 : Int) : Option Bool :=
  if decide (a1 ≥ 0) then
    some (decide (a1 < a0.Objects))
  else
    some false

end Go.Gx
