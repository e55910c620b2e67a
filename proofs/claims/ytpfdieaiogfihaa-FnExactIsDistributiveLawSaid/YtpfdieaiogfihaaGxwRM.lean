/- Models of the functions. Printed by wip/gen. -/
import Derived.Test.YtpfdieaiogfihaaGxwMM
import Derived.Test.YtpfdieaiogfihaaGxE1
namespace Go.Gx

def M.spec_l16Two (a0 : XMonad) (a1 : XMonad) : Option Int :=
  (M.spec_l16Is a0).bind fun v1 =>
  if v1 then
    (M.spec_l16Is a1).bind fun v3 =>
    if v3 then
      (M.spec_l02Same a0.On.Source a1.On.Source).bind fun v5 =>
      if v5 then
        some 0
      else
        some 5
    else
      some 1
  else
    some 1

def M.impl_monadsCode (a0 : XMonad) (a1 : XMonad) : Option Int :=
  (M.impl_Monad_isMonad a0).bind fun v1 =>
  if v1 then
    (M.impl_Monad_isMonad a1).bind fun v3 =>
    if v3 then
      (M.impl_sameCategory a0.On.Source a1.On.Source).bind fun v5 =>
      if v5 then
        some 0
      else
        some 5
    else
      some 1
  else
    some 1

end Go.Gx
