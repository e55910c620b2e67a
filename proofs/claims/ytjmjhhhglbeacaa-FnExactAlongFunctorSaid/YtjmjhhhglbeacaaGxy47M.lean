/- Models of the functions. Printed by wip/gen. -/
import Derived.Test.YtjmjhhhglbeacaaGxL10M
import Derived.Test.YtjmjhhhglbeacaaGxL8M
import Derived.Test.YtjmjhhhglbeacaaGxE1
namespace Go.Gx

def M.spec_l23Code (a0 : XFunctor) (a1 : XSetFunctor) (a2 : XCategory) : Option Int :=
  (M.spec_l06Is a0).bind fun v1 =>
  if v1 then
    (M.spec_l19Is a1).bind fun v3 =>
    if v3 then
      (M.spec_l02Same a1.Shape a2).bind fun v5 =>
      if v5 then
        some 0
      else
        some 5
    else
      some 1
  else
    some 1

def M.spec_l23Along (a0 : XFunctor) (a1 : XSetFunctor) : Option XSetFunctor :=
  (M.spec_l02Own a0.Source).bind fun v1 =>
  iter (fun (s2 : (List Int) × Int) next3 =>
    if decide (s2.2 < (a0.Objects.length : Int)) then
      (idx a0.Objects s2.2).bind fun y7 =>
      (idx a1.Sizes y7).bind fun y8 =>
      chk (s2.1.length + (([y8] : List Int).length) ≤ lim) (
        next3 (s2.1 ++ ([y8] : List Int), IntKind.i64.wrap (s2.2 + 1)))
    else
      iter (fun (s10 : (List (List Int)) × Int) next11 =>
        if decide (s10.2 < (a0.Arrows.length : Int)) then
          (idx a0.Arrows s10.2).bind fun y15 =>
          (idx a1.Actions y15).bind fun y16 =>
          (M.spec_l01Own y16).bind fun v17 =>
          chk (s10.1.length + 1 ≤ lim) (
            next11 (s10.1 ++ [v17], IntKind.i64.wrap (s10.2 + 1)))
        else
          some (⟨v1, s2.1, s10.1⟩ : XSetFunctor)) fuel (([] : List (List Int)), 0)) fuel (([] : List Int), 0)

def M.spec_AlongFunctor (a0 : XFunctor) (a1 : XSetFunctor) : Option (XSetFunctor × Int) :=
  (M.spec_l23Code a0 a1 a0.Target).bind fun v1 =>
  if v1 != 0 then
    some ((⟨(⟨0, [], [], [], []⟩ : XCategory), [], []⟩ : XSetFunctor), v1)
  else
    (M.spec_l23Along a0 a1).bind fun v3 =>
    some (v3, 0)

def M.impl_alongCode (a0 : XFunctor) (a1 : XSetFunctor) : Option Int :=
  (M.impl_Functor_isFunctor a0).bind fun v1 =>
  if v1 then
    (M.impl_SetFunctor_isSetFunctor a1).bind fun v3 =>
    if v3 then
      (M.impl_sameCategory a0.Target a1.Shape).bind fun v5 =>
      if v5 then
        some 0
      else
        some 5
    else
      some 1
  else
    some 1

def M.impl_along (a0 : XFunctor) (a1 : XSetFunctor) : Option XSetFunctor :=
  (M.impl_Category_copy a0.Source).bind fun v1 =>
  (M.impl_then a0.Objects a1.Sizes).bind fun v2 =>
  iter (fun (s3 : (List (List Int)) × Int) next4 =>
    if decide (s3.2 < (a0.Arrows.length : Int)) then
      (idx a0.Arrows s3.2).bind fun y8 =>
      (idx a1.Actions y8).bind fun y9 =>
      (M.impl_clone y9).bind fun v10 =>
      chk (s3.1.length + 1 ≤ lim) (
        next4 (s3.1 ++ [v10], IntKind.i64.wrap (s3.2 + 1)))
    else
      some (⟨v1, v2, s3.1⟩ : XSetFunctor)) fuel (([] : List (List Int)), 0)

def M.impl_AlongFunctor (a0 : XFunctor) (a1 : XSetFunctor) : Option (XSetFunctor × Int) :=
  (M.impl_alongCode a0 a1).bind fun v1 =>
  if v1 != 0 then
    some ((⟨(⟨0, [], [], [], []⟩ : XCategory), [], []⟩ : XSetFunctor), v1)
  else
    (M.impl_along a0 a1).bind fun v3 =>
    some (v3, 0)

def M.laws_FnExactAlongFunctor (a0 : XFunctor) (a1 : XSetFunctor) : Option Bool :=
  (M.laws_szFunctor a0 1048576).bind fun v1 =>
  if decide (v1 < 0) then
    some true
  else
    (M.laws_szSetFunctor a1 v1).bind fun v3 =>
    if decide (v3 < 0) then
      some true
    else
      (M.laws_toFunctor a0).bind fun v5 =>
      (M.laws_toSetFunctor a1).bind fun v6 =>
      (M.spec_AlongFunctor v5 v6).bind fun v7 =>
      (M.impl_AlongFunctor v5 v6).bind fun v8 =>
      (M.laws_eqSetFunctor v8.1 v7.1).bind fun v9 =>
      if v9 then
        if v8.2 != v7.2 then
          some false
        else
          (M.laws_eqFunctor v5 v5).bind fun v12 =>
          if v12 then
            (M.laws_eqSetFunctor v6 v6).bind fun v14 =>
            if v14 then
              (M.laws_markFunctor v5 1).bind fun v16 =>
              (M.laws_markSetFunctor v6 v16.1).bind fun v17 =>
              if decide (v17.1 < 0) then
                some false
              else
                (M.laws_markSetFunctor v8.1 1).bind fun v19 =>
                (M.laws_heldSetFunctor v19.2 1).bind fun v20 =>
                if decide (v20 < 0) then
                  some false
                else
                  if v20 != v19.1 then
                    some false
                  else
                    some true
            else
              some false
          else
            some false
      else
        some false

end Go.Gx
