/- Models of the functions. Printed by wip/gen. -/
import Derived.Test.YtpfdieaiogfihaaGxwPM
import Derived.Test.YtpfdieaiogfihaaGxE1
namespace Go.Gx

def M.spec_l17Is (a0 : XMonad) (a1 : Int) (a2 : Int) : Option Bool :=
  (idx a0.On.Source.From a2).bind fun y1 =>
  (idx a0.On.Objects a1).bind fun y2 =>
  if y1 != y2 then
    some false
  else
    (idx a0.On.Source.To a2).bind fun y4 =>
    if y4 != a1 then
      some false
    else
      (idx a0.Unit a1).bind fun y6 =>
      (M.spec_l02Then a0.On.Source y6 a2).bind fun v7 =>
      (M.spec_l02Unit a0.On.Source v7).bind fun v8 =>
      if v8 then
        (idx a0.On.Arrows a2).bind fun y10 =>
        (M.spec_l02Then a0.On.Source y10 a2).bind fun v11 =>
        (idx a0.Join a1).bind fun y12 =>
        (M.spec_l02Then a0.On.Source y12 a2).bind fun v13 =>
        some (v11 == v13)
      else
        some false

def M.impl_Monad_isAlgebra (a0 : XMonad) (a1 : Int) (a2 : Int) : Option Bool :=
  (M.impl_Category_ends a0.On.Source a2).bind fun v1 =>
  (M.impl_Monad_object a0 a1).bind fun v2 =>
  if ((v1.from_ == v2) && (v1.to_ == a1)) == true then
    (idx a0.Unit a1).bind fun y4 =>
    (M.impl_Category_then a0.On.Source y4 a2).bind fun v5 =>
    (idx a0.On.Source.Identity a1).bind fun y6 =>
    if v5 == y6 then
      (M.impl_Monad_arrow a0 a2).bind fun v8 =>
      (M.impl_Category_then a0.On.Source v8 a2).bind fun v9 =>
      (idx a0.Join a1).bind fun y10 =>
      (M.impl_Category_then a0.On.Source y10 a2).bind fun v11 =>
      some (v9 == v11)
    else
      some false
  else
    some false

end Go.Gx
