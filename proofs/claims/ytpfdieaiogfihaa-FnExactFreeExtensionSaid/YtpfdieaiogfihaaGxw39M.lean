/- Models of the functions. Printed by wip/gen. -/
import Derived.Test.YtpfdieaiogfihaaGxwQM
import Derived.Test.YtpfdieaiogfihaaGxE1
namespace Go.Gx

def M.spec_FreeExtension (a0 : XMonad) (a1 : Int) (a2 : Int) (a3 : Int) (a4 : Int) : Option (Int × Int) :=
  (M.spec_l17Pair a0 a1 a4).bind fun v1 =>
  joinM (fun (s2 : Int) =>
    if s2 != 0 then
      some (0, s2)
    else
      (M.spec_l17Is a0 a2 a3).bind fun v6 =>
      if v6 then
        (idx a0.On.Source.From a4).bind fun y8 =>
        if y8 != a1 then
          some (0, 5)
        else
          (idx a0.On.Source.To a4).bind fun y10 =>
          if y10 != a2 then
            some (0, 5)
          else
            (idx a0.On.Arrows a4).bind fun y12 =>
            (M.spec_l02Then a0.On.Source y12 a3).bind fun v13 =>
            some (v13, 0)
      else
        some (0, 5)) fun k3 =>
  if v1 == 0 then
    (M.spec_l17Pair a0 a2 a3).bind fun v15 =>
    k3 v15
  else
    k3 v1

def M.impl_FreeExtension (a0 : XMonad) (a1 : Int) (a2 : Int) (a3 : Int) (a4 : Int) : Option (Int × Int) :=
  (M.impl_pairCode a0 ([a1, a2] : List Int) ([a3, a4] : List Int)).bind fun v1 =>
  if v1 != 0 then
    some (0, v1)
  else
    (M.impl_Monad_isAlgebra a0 a2 a3).bind fun v3 =>
    if v3 then
      (M.impl_Category_ends a0.On.Source a4).bind fun v5 =>
      if ((v5.from_ == a1) && (v5.to_ == a2)) == false then
        some (0, 5)
      else
        (M.impl_Monad_arrow a0 a4).bind fun v7 =>
        (M.impl_Category_then a0.On.Source v7 a3).bind fun v8 =>
        some (v8, 0)
    else
      some (0, 5)

def M.laws_FnExactFreeExtension (a0 : XMonad) (a1 : Int) (a2 : Int) (a3 : Int) (a4 : Int) : Option Bool :=
  (M.laws_szMonad a0 1048576).bind fun v1 =>
  if decide (v1 < 0) then
    some true
  else
    (M.laws_toMonad a0).bind fun v3 =>
    (M.spec_FreeExtension v3 a1 a2 a3 a4).bind fun v4 =>
    (M.impl_FreeExtension v3 a1 a2 a3 a4).bind fun v5 =>
    if v5.1 != v4.1 then
      some false
    else
      if v5.2 != v4.2 then
        some false
      else
        (M.laws_eqMonad v3 v3).bind fun v8 =>
        if v8 then
          some true
        else
          some false

end Go.Gx
