/- Models of the functions. Printed by wip/gen. -/
import Derived.Test.YtpfdieaiogfihaaGxwMM
import Derived.Test.YtpfdieaiogfihaaGxE1
namespace Go.Gx

def M.spec_IsMonad (a0 : XMonad) : Option Bool :=
  (M.spec_l16Is a0).bind fun v1 =>
  some v1

def M.impl_IsMonad (a0 : XMonad) : Option Bool :=
  (M.impl_Monad_isMonad a0).bind fun v1 =>
  some v1

def M.laws_FnExactIsMonad (a0 : XMonad) : Option Bool :=
  (M.laws_szMonad a0 1048576).bind fun v1 =>
  if decide (v1 < 0) then
    some true
  else
    (M.laws_toMonad a0).bind fun v3 =>
    (M.spec_IsMonad v3).bind fun v4 =>
    (M.impl_IsMonad v3).bind fun v5 =>
    if (v5 == v4) == false then
      some false
    else
      (M.laws_eqMonad v3 v3).bind fun v7 =>
      if v7 then
        some true
      else
        some false

end Go.Gx
