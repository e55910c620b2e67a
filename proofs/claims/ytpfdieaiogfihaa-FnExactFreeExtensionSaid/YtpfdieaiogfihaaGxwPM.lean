/- Models of the functions. Printed by wip/gen. -/
import Derived.Test.YtpfdieaiogfihaaGxwMM
import Derived.Test.YtpfdieaiogfihaaGxwOM
import Derived.Test.YtpfdieaiogfihaaGxE1
namespace Go.Gx

def M.spec_l17Pair (a0 : XMonad) (a1 : Int) (a2 : Int) : Option Int :=
  (M.spec_l16Is a0).bind fun v1 =>
  if v1 then
    (M.spec_l02Object a0.On.Source a1).bind fun v3 =>
    if v3 then
      (M.spec_l02Arrow a0.On.Source a2).bind fun v5 =>
      if v5 then
        some 0
      else
        some 2
    else
      some 2
  else
    some 1

def M.impl_pairCode (a0 : XMonad) (a1 : List Int) (a2 : List Int) : Option Int :=
  (M.impl_Monad_isMonad a0).bind fun v1 =>
  if v1 then
    (M.impl_within a1 a0.On.Source.Objects).bind fun v3 =>
    if v3 then
      (M.impl_Category_arrows a0.On.Source).bind fun v5 =>
      (M.impl_within a2 v5).bind fun v6 =>
      if v6 then
        some 0
      else
        some 2
    else
      some 2
  else
    some 1

end Go.Gx
