/- Laid together: part 3. -/
import Derived.Test.YtiikkfdehbcfaaaGxEM2
import Derived.Test.YtiikkfdehbcfaaaGxE1
/- Models of the functions. Printed by wip/gen. -/
namespace Go.Gx

def M.spec_IsCocone (a0 : XFunctor) (a1 : XCone) : Option (Bool × Int) :=
  (M.spec_l06Is a0).bind fun v1 =>
  if v1 then
    (M.spec_l06Op a0).bind fun v3 =>
    (M.spec_l12Cone v3 a1).bind fun v4 =>
    some (v4, 0)
  else
    some (false, 1)

def M.impl_IsCocone (a0 : XFunctor) (a1 : XCone) : Option (Bool × Int) :=
  (M.impl_Functor_isFunctor a0).bind fun v1 =>
  if v1 then
    (M.impl_coconesOf a0).bind fun v3 =>
    (M.impl_cocones_diagram (⟨v3⟩ : Xcocones)).bind fun v4 =>
    (M.impl_isCone v4 a1).bind fun v5 =>
    some (v5, 0)
  else
    some (false, 1)

def M.laws_FnExactIsCocone (a0 : XFunctor) (a1 : XCone) : Option Bool :=
  (M.laws_szFunctor a0 1048576).bind fun v1 =>
  if decide (v1 < 0) then
    some true
  else
    (M.laws_szCone a1 v1).bind fun v3 =>
    if decide (v3 < 0) then
      some true
    else
      (M.laws_toFunctor a0).bind fun v5 =>
      (M.laws_toCone a1).bind fun v6 =>
      (M.spec_IsCocone v5 v6).bind fun v7 =>
      (M.impl_IsCocone v5 v6).bind fun v8 =>
      if (v8.1 == v7.1) == false then
        some false
      else
        if v8.2 != v7.2 then
          some false
        else
          (M.laws_eqFunctor v5 v5).bind fun v11 =>
          if v11 then
            (M.laws_eqCone v6 v6).bind fun v13 =>
            if v13 then
              some true
            else
              some false
          else
            some false

end Go.Gx
