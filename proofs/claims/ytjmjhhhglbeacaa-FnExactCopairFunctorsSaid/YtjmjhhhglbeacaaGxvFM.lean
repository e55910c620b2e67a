/- Models of the functions. Printed by wip/gen. -/
import Derived.Test.YtjmjhhhglbeacaaGxL8M
import Derived.Test.YtjmjhhhglbeacaaGxE1
namespace Go.Gx

def M.spec_l06Two (a0 : XFunctor) (a1 : XFunctor) : Option Int :=
  (M.spec_l06Is a0).bind fun v1 =>
  if v1 then
    (M.spec_l06Is a1).bind fun v3 =>
    if v3 then
      some 0
    else
      some 1
  else
    some 1

end Go.Gx
