/- Models of the functions. Printed by wip/gen. -/
import Derived.Test.YtaijkiepcaobiaaGxL12M
import Derived.Test.YtaijkiepcaobiaaGxE1
namespace Go.Gx

def M.impl_companion (a0 : XFunctor) : Option XProfunctor :=
  (M.impl_identity a0.Target).bind fun v1 =>
  (M.impl_natural a0 v1).bind fun v2 =>
  some v2

def M.spec_CompanionOf (a0 : XFunctor) : Option (XProfunctor × Int) :=
  (M.spec_l06Is a0).bind fun v1 =>
  if v1 then
    (M.spec_l06Self a0.Target).bind fun v3 =>
    (M.spec_l22Natural a0 v3).bind fun v4 =>
    some (v4, 0)
  else
    some ((⟨(⟨0, [], [], [], []⟩ : XCategory), (⟨0, [], [], [], []⟩ : XCategory), [], [], []⟩ : XProfunctor), 1)

def M.impl_CompanionOf (a0 : XFunctor) : Option (XProfunctor × Int) :=
  (M.impl_Functor_isFunctor a0).bind fun v1 =>
  if v1 then
    (M.impl_companion a0).bind fun v3 =>
    some (v3, 0)
  else
    some ((⟨(⟨0, [], [], [], []⟩ : XCategory), (⟨0, [], [], [], []⟩ : XCategory), [], [], []⟩ : XProfunctor), 1)

def M.laws_FnExactCompanionOf (a0 : XFunctor) : Option Bool :=
  (M.laws_szFunctor a0 1048576).bind fun v1 =>
  if decide (v1 < 0) then
    some true
  else
    (M.laws_toFunctor a0).bind fun v3 =>
    (M.spec_CompanionOf v3).bind fun v4 =>
    (M.impl_CompanionOf v3).bind fun v5 =>
    (M.laws_eqProfunctor v5.1 v4.1).bind fun v6 =>
    if v6 then
      if v5.2 != v4.2 then
        some false
      else
        (M.laws_eqFunctor v3 v3).bind fun v9 =>
        if v9 then
          (M.laws_markFunctor v3 1).bind fun v11 =>
          if decide (v11.1 < 0) then
            some false
          else
            (M.laws_markProfunctor v5.1 1).bind fun v13 =>
            (M.laws_heldProfunctor v13.2 1).bind fun v14 =>
            if decide (v14 < 0) then
              some false
            else
              if v14 != v13.1 then
                some false
              else
                some true
        else
          some false
    else
      some false

end Go.Gx
