/- Models of the functions. Printed by wip/gen. -/
import Derived.Test.YtpfdieaiogfihaaGxwQM
import Derived.Test.YtpfdieaiogfihaaGxE1
namespace Go.Gx

def M.spec_IsAlgebra (a0 : XMonad) (a1 : Int) (a2 : Int) : Option (Bool × Int) :=
  (M.spec_l17Pair a0 a1 a2).bind fun v1 =>
  if v1 != 0 then
    some (false, v1)
  else
    (M.spec_l17Is a0 a1 a2).bind fun v3 =>
    some (v3, 0)

def M.impl_IsAlgebra (a0 : XMonad) (a1 : Int) (a2 : Int) : Option (Bool × Int) :=
  (M.impl_pairCode a0 ([a1] : List Int) ([a2] : List Int)).bind fun v1 =>
  if v1 != 0 then
    some (false, v1)
  else
    (M.impl_Monad_isAlgebra a0 a1 a2).bind fun v3 =>
    some (v3, 0)

def M.laws_FnExactIsAlgebra (a0 : XMonad) (a1 : Int) (a2 : Int) : Option Bool :=
  (M.laws_szMonad a0 1048576).bind fun v1 =>
  if decide (v1 < 0) then
    some true
  else
    (M.laws_toMonad a0).bind fun v3 =>
    (M.spec_IsAlgebra v3 a1 a2).bind fun v4 =>
    (M.impl_IsAlgebra v3 a1 a2).bind fun v5 =>
    if (v5.1 == v4.1) == false then
      some false
    else
      if v5.2 != v4.2 then
        some false
      else
        (M.laws_eqMonad v3 v3).bind fun v8 =>
        if v8 then
          some true
        else
          some false

end Go.Gx
