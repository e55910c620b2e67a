/- Models of the functions. Printed by wip/gen. -/
import Derived.Test.YtaijkiepcaobiaaGxv08M
import Derived.Test.YtaijkiepcaobiaaGxE1
namespace Go.Gx

def M.spec_l08Fix (a0 : XCategory) (a1 : XCategory) (a2 : XFunctor) (a3 : Int) : Option XFunctor :=
  iter (fun (s1 : (List Int) × Int) next2 =>
    if decide (s1.2 < a1.Objects) then
      (idx a2.Objects (IntKind.i64.wrap ((IntKind.i64.wrap (a3 * a1.Objects)) + s1.2))).bind fun y6 =>
      chk (s1.1.length + (([y6] : List Int).length) ≤ lim) (
        next2 (s1.1 ++ ([y6] : List Int), IntKind.i64.wrap (s1.2 + 1)))
    else
      iter (fun (s8 : (List Int) × Int) next9 =>
        if decide (s8.2 < (a1.From.length : Int)) then
          (idx a0.Identity a3).bind fun y13 =>
          (idx a2.Arrows (IntKind.i64.wrap ((IntKind.i64.wrap (y13 * (a1.From.length : Int))) + s8.2))).bind fun y14 =>
          chk (s8.1.length + (([y14] : List Int).length) ≤ lim) (
            next9 (s8.1 ++ ([y14] : List Int), IntKind.i64.wrap (s8.2 + 1)))
        else
          (M.spec_l06Make a1 a2.Target s1.1 s8.1).bind fun v16 =>
          some v16) fuel (([] : List Int), 0)) fuel (([] : List Int), 0)

def M.spec_FixFirst (a0 : XCategory) (a1 : XCategory) (a2 : XFunctor) (a3 : Int) : Option (XFunctor × Int) :=
  (M.spec_l02Object a0 a3).bind fun v1 =>
  (M.spec_l08Two a0 a1 a2 v1).bind fun v2 =>
  if v2 != 0 then
    some ((⟨(⟨0, [], [], [], []⟩ : XCategory), (⟨0, [], [], [], []⟩ : XCategory), [], []⟩ : XFunctor), v2)
  else
    (M.spec_l08Fix a0 a1 a2 a3).bind fun v4 =>
    some (v4, 0)

def M.impl_fixFirst (a0 : XCategory) (a1 : XCategory) (a2 : XFunctor) (a3 : Int) : Option XFunctor :=
  iter (fun (s1 : (List Int) × Int) next2 =>
    if decide (s1.2 < a1.Objects) then
      (idx a2.Objects (IntKind.i64.wrap ((IntKind.i64.wrap (a3 * a1.Objects)) + s1.2))).bind fun y6 =>
      chk (s1.1.length + (([y6] : List Int).length) ≤ lim) (
        next2 (s1.1 ++ ([y6] : List Int), IntKind.i64.wrap (s1.2 + 1)))
    else
      iter (fun (s8 : (List Int) × Int) next9 =>
        (M.impl_Category_arrows a1).bind fun v12 =>
        if decide (s8.2 < v12) then
          (idx a0.Identity a3).bind fun y14 =>
          (idx a2.Arrows (IntKind.i64.wrap ((IntKind.i64.wrap (y14 * v12)) + s8.2))).bind fun y15 =>
          chk (s8.1.length + (([y15] : List Int).length) ≤ lim) (
            next9 (s8.1 ++ ([y15] : List Int), IntKind.i64.wrap (s8.2 + 1)))
        else
          (M.impl_functor a1 a2.Target s1.1 s8.1).bind fun v17 =>
          some v17) fuel (([] : List Int), 0)) fuel (([] : List Int), 0)

def M.impl_FixFirst (a0 : XCategory) (a1 : XCategory) (a2 : XFunctor) (a3 : Int) : Option (XFunctor × Int) :=
  (M.impl_twoVariables a0 a1 a2).bind fun v1 =>
  if v1 != 0 then
    some ((⟨(⟨0, [], [], [], []⟩ : XCategory), (⟨0, [], [], [], []⟩ : XCategory), [], []⟩ : XFunctor), v1)
  else
    (M.impl_inRange a3 0 (IntKind.i64.wrap (a0.Objects - 1))).bind fun v3 =>
    if v3 then
      (M.impl_fromProduct a0 a1 a2).bind fun v5 =>
      if v5 then
        (M.impl_fixFirst a0 a1 a2 a3).bind fun v7 =>
        some (v7, 0)
      else
        some ((⟨(⟨0, [], [], [], []⟩ : XCategory), (⟨0, [], [], [], []⟩ : XCategory), [], []⟩ : XFunctor), 5)
    else
      some ((⟨(⟨0, [], [], [], []⟩ : XCategory), (⟨0, [], [], [], []⟩ : XCategory), [], []⟩ : XFunctor), 2)

def M.laws_FnExactFixFirst (a0 : XCategory) (a1 : XCategory) (a2 : XFunctor) (a3 : Int) : Option Bool :=
  (M.laws_szCategory a0 1048576).bind fun v1 =>
  if decide (v1 < 0) then
    some true
  else
    (M.laws_szCategory a1 v1).bind fun v3 =>
    if decide (v3 < 0) then
      some true
    else
      (M.laws_szFunctor a2 v3).bind fun v5 =>
      if decide (v5 < 0) then
        some true
      else
        (M.laws_toCategory a0).bind fun v7 =>
        (M.laws_toCategory a1).bind fun v8 =>
        (M.laws_toFunctor a2).bind fun v9 =>
        (M.spec_FixFirst v7 v8 v9 a3).bind fun v10 =>
        (M.impl_FixFirst v7 v8 v9 a3).bind fun v11 =>
        (M.laws_eqFunctor v11.1 v10.1).bind fun v12 =>
        if v12 then
          if v11.2 != v10.2 then
            some false
          else
            (M.laws_eqCategory v7 v7).bind fun v15 =>
            if v15 then
              (M.laws_eqCategory v8 v8).bind fun v17 =>
              if v17 then
                (M.laws_eqFunctor v9 v9).bind fun v19 =>
                if v19 then
                  (M.laws_markCategory v7 1).bind fun v21 =>
                  (M.laws_markCategory v8 v21.1).bind fun v22 =>
                  (M.laws_markFunctor v9 v22.1).bind fun v23 =>
                  if decide (v23.1 < 0) then
                    some false
                  else
                    (M.laws_markFunctor v11.1 1).bind fun v25 =>
                    (M.laws_heldFunctor v25.2 1).bind fun v26 =>
                    if decide (v26 < 0) then
                      some false
                    else
                      if v26 != v25.1 then
                        some false
                      else
                        some true
                else
                  some false
              else
                some false
            else
              some false
        else
          some false

end Go.Gx
