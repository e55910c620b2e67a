/- Models of the functions. Printed by wip/gen. -/
import Derived.Test.YtaijkiepcaobiaaGxvFM
import Derived.Test.YtaijkiepcaobiaaGxL12M
import Derived.Test.YtaijkiepcaobiaaGxE1
namespace Go.Gx

def M.spec_NaturalProfunctor (a0 : XFunctor) (a1 : XFunctor) : Option (XProfunctor × Int) :=
  (M.spec_l06Two a0 a1).bind fun v1 =>
  if v1 != 0 then
    some ((⟨(⟨0, [], [], [], []⟩ : XCategory), (⟨0, [], [], [], []⟩ : XCategory), [], [], []⟩ : XProfunctor), v1)
  else
    (M.spec_l02Same a0.Target a1.Target).bind fun v3 =>
    if v3 then
      (M.spec_l22Natural a0 a1).bind fun v5 =>
      some (v5, 0)
    else
      some ((⟨(⟨0, [], [], [], []⟩ : XCategory), (⟨0, [], [], [], []⟩ : XCategory), [], [], []⟩ : XProfunctor), 5)

def M.impl_NaturalProfunctor (a0 : XFunctor) (a1 : XFunctor) : Option (XProfunctor × Int) :=
  (M.impl_areFunctors ([a0, a1] : List XFunctor)).bind fun v1 =>
  if v1 then
    (M.impl_sameCategory a0.Target a1.Target).bind fun v3 =>
    if v3 then
      (M.impl_natural a0 a1).bind fun v5 =>
      some (v5, 0)
    else
      some ((⟨(⟨0, [], [], [], []⟩ : XCategory), (⟨0, [], [], [], []⟩ : XCategory), [], [], []⟩ : XProfunctor), 5)
  else
    some ((⟨(⟨0, [], [], [], []⟩ : XCategory), (⟨0, [], [], [], []⟩ : XCategory), [], [], []⟩ : XProfunctor), 1)

def M.laws_FnExactNaturalProfunctor (a0 : XFunctor) (a1 : XFunctor) : Option Bool :=
  (M.laws_szFunctor a0 1048576).bind fun v1 =>
  if decide (v1 < 0) then
    some true
  else
    (M.laws_szFunctor a1 v1).bind fun v3 =>
    if decide (v3 < 0) then
      some true
    else
      (M.laws_toFunctor a0).bind fun v5 =>
      (M.laws_toFunctor a1).bind fun v6 =>
      (M.spec_NaturalProfunctor v5 v6).bind fun v7 =>
      (M.impl_NaturalProfunctor v5 v6).bind fun v8 =>
      (M.laws_eqProfunctor v8.1 v7.1).bind fun v9 =>
      if v9 then
        if v8.2 != v7.2 then
          some false
        else
          (M.laws_eqFunctor v5 v5).bind fun v12 =>
          if v12 then
            (M.laws_eqFunctor v6 v6).bind fun v14 =>
            if v14 then
              (M.laws_markFunctor v5 1).bind fun v16 =>
              (M.laws_markFunctor v6 v16.1).bind fun v17 =>
              if decide (v17.1 < 0) then
                some false
              else
                (M.laws_markProfunctor v8.1 1).bind fun v19 =>
                (M.laws_heldProfunctor v19.2 1).bind fun v20 =>
                if decide (v20 < 0) then
                  some false
                else
                  if v20 != v19.1 then
                    some false
                  else
                    some true
            else
              some false
          else
            some false
      else
        some false

end Go.Gx
