/- Models of the functions. Printed by wip/gen. -/
import Derived.Test.YtpfdieaiogfihaaGxwPM
import Derived.Test.YtpfdieaiogfihaaGxE1
namespace Go.Gx

structure Xalgebra where
  x_ : Int
  h_ : Int
def eXalgebra : Enc Xalgebra := (eA (eC eI Xalgebra.x_) (eC eI Xalgebra.h_))
theorem eXalgebra_ok : EncOk eXalgebra := (eA_ok (eC_ok eI_ok _) (eC_ok eI_ok _))
def R.Xalgebra (x : Xalgebra) : Prop := (I64 x.x_) ∧ (I64 x.h_)
theorem eXalgebra_nb : EncNb eXalgebra := (eA_nb (eC_nb eI_nb _) (eC_nb eI_nb _))

def M.spec_FreeAlgebra (a0 : XMonad) (a1 : Int) : Option (Int × Int × Int) :=
  (M.spec_l16Is a0).bind fun v1 =>
  if v1 then
    (M.spec_l02Object a0.On.Source a1).bind fun v3 =>
    if v3 then
      (idx a0.On.Objects a1).bind fun y5 =>
      (idx a0.Join a1).bind fun y6 =>
      some (y5, y6, 0)
    else
      some (0, 0, 2)
  else
    some (0, 0, 1)

def M.impl_Monad_free (a0 : XMonad) (a1 : Int) : Option Xalgebra :=
  (M.impl_Monad_object a0 a1).bind fun v1 =>
  (idx a0.Join a1).bind fun y2 =>
  some (⟨v1, y2⟩ : Xalgebra)

def M.impl_FreeAlgebra (a0 : XMonad) (a1 : Int) : Option (Int × Int × Int) :=
  (M.impl_pairCode a0 ([a1] : List Int) ([] : List Int)).bind fun v1 =>
  if v1 != 0 then
    some (0, 0, v1)
  else
    (M.impl_Monad_free a0 a1).bind fun v3 =>
    some (v3.x_, v3.h_, 0)

def M.laws_FnExactFreeAlgebra (a0 : XMonad) (a1 : Int) : Option Bool :=
  (M.laws_szMonad a0 1048576).bind fun v1 =>
  if decide (v1 < 0) then
    some true
  else
    (M.laws_toMonad a0).bind fun v3 =>
    (M.spec_FreeAlgebra v3 a1).bind fun v4 =>
    (M.impl_FreeAlgebra v3 a1).bind fun v5 =>
    if v5.1 != v4.1 then
      some false
    else
      if v5.2.1 != v4.2.1 then
        some false
      else
        if v5.2.2 != v4.2.2 then
          some false
        else
          (M.laws_eqMonad v3 v3).bind fun v9 =>
          if v9 then
            some true
          else
            some false

end Go.Gx
