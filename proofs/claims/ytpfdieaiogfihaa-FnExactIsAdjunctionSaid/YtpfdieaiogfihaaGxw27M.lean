/- Models of the functions. Printed by wip/gen. -/
import Derived.Test.YtpfdieaiogfihaaGxwAM
import Derived.Test.YtpfdieaiogfihaaGxE1
namespace Go.Gx

def M.spec_IsAdjunction (a0 : XAdjunction) : Option Bool :=
  (M.spec_l15Is a0).bind fun v1 =>
  some v1

def M.impl_IsAdjunction (a0 : XAdjunction) : Option Bool :=
  (M.impl_Adjunction_isAdjunction a0).bind fun v1 =>
  some v1

def M.laws_FnExactIsAdjunction (a0 : XAdjunction) : Option Bool :=
  (M.laws_szAdjunction a0 1048576).bind fun v1 =>
  if decide (v1 < 0) then
    some true
  else
    (M.laws_toAdjunction a0).bind fun v3 =>
    (M.spec_IsAdjunction v3).bind fun v4 =>
    (M.impl_IsAdjunction v3).bind fun v5 =>
    if (v5 == v4) == false then
      some false
    else
      (M.laws_eqAdjunction v3 v3).bind fun v7 =>
      if v7 then
        some true
      else
        some false

end Go.Gx
