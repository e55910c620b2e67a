/- Models of the functions. Printed by wip/gen. -/
import Derived.Test.YtpfdieaiogfihaaGxwAM
import Derived.Test.YtpfdieaiogfihaaGxwVM
import Derived.Test.YtpfdieaiogfihaaGxE1
namespace Go.Gx

def M.spec_IsReflection (a0 : XAdjunction) : Option (Bool × Int) :=
  (M.spec_l15Is a0).bind fun v1 =>
  if v1 then
    (M.spec_l15Isos a0.Left.Target a0.Counit).bind fun v3 =>
    some ((v3.length : Int) == (a0.Counit.length : Int), 0)
  else
    some (false, 1)

def M.impl_IsReflection (a0 : XAdjunction) : Option (Bool × Int) :=
  (M.impl_Adjunction_isAdjunction a0).bind fun v1 =>
  if v1 then
    (M.impl_Category_isos a0.Left.Target a0.Counit).bind fun v3 =>
    some ((v3.length : Int) == (a0.Counit.length : Int), 0)
  else
    some (false, 1)

def M.laws_FnExactIsReflection (a0 : XAdjunction) : Option Bool :=
  (M.laws_szAdjunction a0 1048576).bind fun v1 =>
  if decide (v1 < 0) then
    some true
  else
    (M.laws_toAdjunction a0).bind fun v3 =>
    (M.spec_IsReflection v3).bind fun v4 =>
    (M.impl_IsReflection v3).bind fun v5 =>
    if (v5.1 == v4.1) == false then
      some false
    else
      if v5.2 != v4.2 then
        some false
      else
        (M.laws_eqAdjunction v3 v3).bind fun v8 =>
        if v8 then
          some true
        else
          some false

end Go.Gx
