/- Laid together: part 1. -/
import Derived.Test.YtjmjhhhglbeacaaGxEM0
import Derived.Test.YtjmjhhhglbeacaaGxE1
/- Models of the functions. Printed by wip/gen. -/
namespace Go.Gx

def M.spec_l35Objects (a0 : XMonoidal) (a1 : List Int) : Option Int :=
  (M.spec_l35Is a0).bind fun v1 =>
  if v1 then
    (M.spec_l01Map a0.On.Objects a1).bind fun v3 =>
    if v3 then
      some 0
    else
      some 2
  else
    some 1

def M.impl_monoidalCode (a0 : XMonoidal) (a1 : List Int) : Option Int :=
  (M.impl_Monoidal_isMonoidal a0).bind fun v1 =>
  if v1 then
    (M.impl_within a1 a0.On.Objects).bind fun v3 =>
    if v3 then
      some 0
    else
      some 2
  else
    some 1

end Go.Gx

/- Models of the functions. Printed by wip/gen. -/
namespace Go.Gx

def M.spec_InternalHom (a0 : XMonoidal) (a1 : Int) (a2 : Int) : Option (Int × Int × Int) :=
  (M.spec_l35Objects a0 ([a1, a2] : List Int)).bind fun v1 =>
  if v1 != 0 then
    some (0, 0, v1)
  else
    (M.spec_l35Behind a0 a1).bind fun v3 =>
    (M.spec_l15Find v3 a2).bind fun v4 =>
    if v4.2.2 then
      some (v4.1, v4.2.1, 0)
    else
      some (0, 0, 4)

def M.impl_InternalHom (a0 : XMonoidal) (a1 : Int) (a2 : Int) : Option (Int × Int × Int) :=
  (M.impl_monoidalCode a0 ([a1, a2] : List Int)).bind fun v1 =>
  if v1 != 0 then
    some (0, 0, v1)
  else
    (M.impl_Monoidal_behind a0 a1).bind fun v3 =>
    (M.impl_Functor_universalArrow v3 a2).bind fun v4 =>
    if v4.2.2 then
      some (v4.1, v4.2.1, 0)
    else
      some (0, 0, 4)

def M.laws_FnExactInternalHom (a0 : XMonoidal) (a1 : Int) (a2 : Int) : Option Bool :=
  (M.laws_szMonoidal a0 1048576).bind fun v1 =>
  if decide (v1 < 0) then
    some true
  else
    (M.laws_toMonoidal a0).bind fun v3 =>
    (M.spec_InternalHom v3 a1 a2).bind fun v4 =>
    (M.impl_InternalHom v3 a1 a2).bind fun v5 =>
    if v5.1 != v4.1 then
      some false
    else
      if v5.2.1 != v4.2.1 then
        some false
      else
        if v5.2.2 != v4.2.2 then
          some false
        else
          (M.laws_eqMonoidal v3 v3).bind fun v9 =>
          if v9 then
            some true
          else
            some false

end Go.Gx
