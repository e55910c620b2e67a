/- Models of the functions. Printed by wip/gen. -/
import Derived.Test.YtjmjhhhglbeacaaGxL8M
import Derived.Test.YtjmjhhhglbeacaaGxE1
namespace Go.Gx

def M.spec_l06Same (a0 : XFunctor) (a1 : XFunctor) : Option Bool :=
  (M.spec_l02Same a0.Source a1.Source).bind fun v1 =>
  if v1 then
    (M.spec_l02Same a0.Target a1.Target).bind fun v3 =>
    if v3 then
      (M.spec_l01Same a0.Objects a1.Objects).bind fun v5 =>
      if v5 then
        (M.spec_l01Same a0.Arrows a1.Arrows).bind fun v7 =>
        some v7
      else
        some false
    else
      some false
  else
    some false

def M.impl_sameFunctor (a0 : XFunctor) (a1 : XFunctor) : Option Bool :=
  (M.impl_sameCategory a0.Source a1.Source).bind fun v1 =>
  if v1 then
    (M.impl_sameCategory a0.Target a1.Target).bind fun v3 =>
    if v3 then
      (M.impl_same a0.Objects a1.Objects).bind fun v5 =>
      if v5 then
        (M.impl_same a0.Arrows a1.Arrows).bind fun v7 =>
        some v7
      else
        some false
    else
      some false
  else
    some false

def M.spec_ThenTransformations (a0 : XTransformation) (a1 : XTransformation) : Option (XTransformation × Int) :=
  (M.spec_l07Is a0).bind fun v1 =>
  if v1 then
    (M.spec_l07Is a1).bind fun v3 =>
    if v3 then
      (M.spec_l06Same a0.Target a1.Source).bind fun v5 =>
      if v5 then
        (M.spec_l07Then a0.Source.Target a0.Components a1.Components).bind fun v7 =>
        (M.spec_l07Make a0.Source a1.Target v7).bind fun v8 =>
        some (v8, 0)
      else
        some ((⟨(⟨(⟨0, [], [], [], []⟩ : XCategory), (⟨0, [], [], [], []⟩ : XCategory), [], []⟩ : XFunctor), (⟨(⟨0, [], [], [], []⟩ : XCategory), (⟨0, [], [], [], []⟩ : XCategory), [], []⟩ : XFunctor), []⟩ : XTransformation), 5)
    else
      some ((⟨(⟨(⟨0, [], [], [], []⟩ : XCategory), (⟨0, [], [], [], []⟩ : XCategory), [], []⟩ : XFunctor), (⟨(⟨0, [], [], [], []⟩ : XCategory), (⟨0, [], [], [], []⟩ : XCategory), [], []⟩ : XFunctor), []⟩ : XTransformation), 1)
  else
    some ((⟨(⟨(⟨0, [], [], [], []⟩ : XCategory), (⟨0, [], [], [], []⟩ : XCategory), [], []⟩ : XFunctor), (⟨(⟨0, [], [], [], []⟩ : XCategory), (⟨0, [], [], [], []⟩ : XCategory), [], []⟩ : XFunctor), []⟩ : XTransformation), 1)

def M.impl_ThenTransformations (a0 : XTransformation) (a1 : XTransformation) : Option (XTransformation × Int) :=
  (M.impl_areNatural ([a0, a1] : List XTransformation)).bind fun v1 =>
  if v1 then
    (M.impl_sameFunctor a0.Target a1.Source).bind fun v3 =>
    if v3 then
      (M.impl_Category_composed a0.Source.Target a0.Components a1.Components).bind fun v5 =>
      (M.impl_transformation a0.Source a1.Target v5).bind fun v6 =>
      some (v6, 0)
    else
      some ((⟨(⟨(⟨0, [], [], [], []⟩ : XCategory), (⟨0, [], [], [], []⟩ : XCategory), [], []⟩ : XFunctor), (⟨(⟨0, [], [], [], []⟩ : XCategory), (⟨0, [], [], [], []⟩ : XCategory), [], []⟩ : XFunctor), []⟩ : XTransformation), 5)
  else
    some ((⟨(⟨(⟨0, [], [], [], []⟩ : XCategory), (⟨0, [], [], [], []⟩ : XCategory), [], []⟩ : XFunctor), (⟨(⟨0, [], [], [], []⟩ : XCategory), (⟨0, [], [], [], []⟩ : XCategory), [], []⟩ : XFunctor), []⟩ : XTransformation), 1)

def M.laws_FnExactThenTransformations (a0 : XTransformation) (a1 : XTransformation) : Option Bool :=
  (M.laws_szTransformation a0 1048576).bind fun v1 =>
  if decide (v1 < 0) then
    some true
  else
    (M.laws_szTransformation a1 v1).bind fun v3 =>
    if decide (v3 < 0) then
      some true
    else
      (M.laws_toTransformation a0).bind fun v5 =>
      (M.laws_toTransformation a1).bind fun v6 =>
      (M.spec_ThenTransformations v5 v6).bind fun v7 =>
      (M.impl_ThenTransformations v5 v6).bind fun v8 =>
      (M.laws_eqTransformation v8.1 v7.1).bind fun v9 =>
      if v9 then
        if v8.2 != v7.2 then
          some false
        else
          (M.laws_eqTransformation v5 v5).bind fun v12 =>
          if v12 then
            (M.laws_eqTransformation v6 v6).bind fun v14 =>
            if v14 then
              (M.laws_markTransformation v5 1).bind fun v16 =>
              (M.laws_markTransformation v6 v16.1).bind fun v17 =>
              if decide (v17.1 < 0) then
                some false
              else
                (M.laws_markTransformation v8.1 1).bind fun v19 =>
                (M.laws_heldTransformation v19.2 1).bind fun v20 =>
                if decide (v20 < 0) then
                  some false
                else
                  if v20 != v19.1 then
                    some false
                  else
                    some true
            else
              some false
          else
            some false
      else
        some false

end Go.Gx
