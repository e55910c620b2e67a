/- Models of the functions. Printed by wip/gen. -/
import Derived.Test.YtaijkiepcaobiaaGxL8M
import Derived.Test.YtaijkiepcaobiaaGxL3M
import Derived.Test.YtaijkiepcaobiaaGxE1
namespace Go.Gx

def M.spec_l02Object (a0 : XCategory) (a1 : Int) : Option Bool :=
  if decide (a1 ≥ 0) then
    some (decide (a1 < a0.Objects))
  else
    some false

def M.spec_l08Two (a0 : XCategory) (a1 : XCategory) (a2 : XFunctor) (a3 : Bool) : Option Int :=
  (M.spec_l02Is a0).bind fun v1 =>
  if v1 then
    (M.spec_l02Is a1).bind fun v3 =>
    if v3 then
      (M.spec_l06Is a2).bind fun v5 =>
      if v5 then
        if a3 then
          (M.spec_l03Product a0 a1).bind fun v8 =>
          (M.spec_l02Same a2.Source v8).bind fun v9 =>
          if v9 then
            some 0
          else
            some 5
        else
          some 2
      else
        some 1
    else
      some 1
  else
    some 1

def M.impl_twoVariables (a0 : XCategory) (a1 : XCategory) (a2 : XFunctor) : Option Int :=
  (M.impl_areCategories ([a0, a1] : List XCategory)).bind fun v1 =>
  if v1 then
    (M.impl_Functor_isFunctor a2).bind fun v3 =>
    if v3 then
      some 0
    else
      some 1
  else
    some 1

def M.impl_fromProduct (a0 : XCategory) (a1 : XCategory) (a2 : XFunctor) : Option Bool :=
  (M.impl_product a0 a1).bind fun v1 =>
  if v1.2 then
    (M.impl_sameCategory v1.1 a2.Source).bind fun v3 =>
    some v3
  else
    some false

end Go.Gx
