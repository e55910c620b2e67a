/- Models of the functions. Printed by wip/gen. -/
import Derived.Test.YtaijkiepcaobiaaGxL8M
import Derived.Test.YtaijkiepcaobiaaGxE1
namespace Go.Gx

def M.spec_FunctorBehind (a0 : XTransformation) (a1 : XFunctor) : Option (XTransformation × Int) :=
  (M.spec_l07Is a0).bind fun v1 =>
  if v1 then
    (M.spec_l06Is a1).bind fun v3 =>
    if v3 then
      (M.spec_l02Same a1.Source a0.Source.Target).bind fun v5 =>
      if v5 then
        (M.spec_l07Behind a0 a1).bind fun v7 =>
        some (v7, 0)
      else
        some ((⟨(⟨(⟨0, [], [], [], []⟩ : XCategory), (⟨0, [], [], [], []⟩ : XCategory), [], []⟩ : XFunctor), (⟨(⟨0, [], [], [], []⟩ : XCategory), (⟨0, [], [], [], []⟩ : XCategory), [], []⟩ : XFunctor), []⟩ : XTransformation), 5)
    else
      some ((⟨(⟨(⟨0, [], [], [], []⟩ : XCategory), (⟨0, [], [], [], []⟩ : XCategory), [], []⟩ : XFunctor), (⟨(⟨0, [], [], [], []⟩ : XCategory), (⟨0, [], [], [], []⟩ : XCategory), [], []⟩ : XFunctor), []⟩ : XTransformation), 1)
  else
    some ((⟨(⟨(⟨0, [], [], [], []⟩ : XCategory), (⟨0, [], [], [], []⟩ : XCategory), [], []⟩ : XFunctor), (⟨(⟨0, [], [], [], []⟩ : XCategory), (⟨0, [], [], [], []⟩ : XCategory), [], []⟩ : XFunctor), []⟩ : XTransformation), 1)

def M.impl_FunctorBehind (a0 : XTransformation) (a1 : XFunctor) : Option (XTransformation × Int) :=
  (M.impl_Transformation_isNatural a0).bind fun v1 =>
  if v1 then
    (M.impl_Functor_isFunctor a1).bind fun v3 =>
    if v3 then
      (M.impl_sameCategory a1.Source a0.Source.Target).bind fun v5 =>
      if v5 then
        (M.impl_Functor_then a0.Source a1).bind fun v7 =>
        (M.impl_Functor_then a0.Target a1).bind fun v8 =>
        (M.impl_then a0.Components a1.Arrows).bind fun v9 =>
        (M.impl_transformation v7 v8 v9).bind fun v10 =>
        some (v10, 0)
      else
        some ((⟨(⟨(⟨0, [], [], [], []⟩ : XCategory), (⟨0, [], [], [], []⟩ : XCategory), [], []⟩ : XFunctor), (⟨(⟨0, [], [], [], []⟩ : XCategory), (⟨0, [], [], [], []⟩ : XCategory), [], []⟩ : XFunctor), []⟩ : XTransformation), 5)
    else
      some ((⟨(⟨(⟨0, [], [], [], []⟩ : XCategory), (⟨0, [], [], [], []⟩ : XCategory), [], []⟩ : XFunctor), (⟨(⟨0, [], [], [], []⟩ : XCategory), (⟨0, [], [], [], []⟩ : XCategory), [], []⟩ : XFunctor), []⟩ : XTransformation), 1)
  else
    some ((⟨(⟨(⟨0, [], [], [], []⟩ : XCategory), (⟨0, [], [], [], []⟩ : XCategory), [], []⟩ : XFunctor), (⟨(⟨0, [], [], [], []⟩ : XCategory), (⟨0, [], [], [], []⟩ : XCategory), [], []⟩ : XFunctor), []⟩ : XTransformation), 1)

def M.laws_FnExactFunctorBehind (a0 : XTransformation) (a1 : XFunctor) : Option Bool :=
  (M.laws_szTransformation a0 1048576).bind fun v1 =>
  if decide (v1 < 0) then
    some true
  else
    (M.laws_szFunctor a1 v1).bind fun v3 =>
    if decide (v3 < 0) then
      some true
    else
      (M.laws_toTransformation a0).bind fun v5 =>
      (M.laws_toFunctor a1).bind fun v6 =>
      (M.spec_FunctorBehind v5 v6).bind fun v7 =>
      (M.impl_FunctorBehind v5 v6).bind fun v8 =>
      (M.laws_eqTransformation v8.1 v7.1).bind fun v9 =>
      if v9 then
        if v8.2 != v7.2 then
          some false
        else
          (M.laws_eqTransformation v5 v5).bind fun v12 =>
          if v12 then
            (M.laws_eqFunctor v6 v6).bind fun v14 =>
            if v14 then
              (M.laws_markTransformation v5 1).bind fun v16 =>
              (M.laws_markFunctor v6 v16.1).bind fun v17 =>
              if decide (v17.1 < 0) then
                some false
              else
                (M.laws_markTransformation v8.1 1).bind fun v19 =>
                (M.laws_heldTransformation v19.2 1).bind fun v20 =>
                if decide (v20 < 0) then
                  some false
                else
                  if v20 != v19.1 then
                    some false
                  else
                    some true
            else
              some false
          else
            some false
      else
        some false

end Go.Gx
