/- Models of the functions. Printed by wip/gen. -/
import Derived.Test.YtaijkiepcaobiaaGxv08M
import Derived.Test.YtaijkiepcaobiaaGxE1
namespace Go.Gx

def M.spec_FixSecond (a0 : XCategory) (a1 : XCategory) (a2 : XFunctor) (a3 : Int) : Option (XFunctor × Int) :=
  (M.spec_l02Object a1 a3).bind fun v1 =>
  (M.spec_l08Two a0 a1 a2 v1).bind fun v2 =>
  if v2 != 0 then
    some ((⟨(⟨0, [], [], [], []⟩ : XCategory), (⟨0, [], [], [], []⟩ : XCategory), [], []⟩ : XFunctor), v2)
  else
    iter (fun (s4 : (List Int) × Int) next5 =>
      if decide (s4.2 < a0.Objects) then
        (idx a2.Objects (IntKind.i64.wrap ((IntKind.i64.wrap (s4.2 * a1.Objects)) + a3))).bind fun y9 =>
        chk (s4.1.length + (([y9] : List Int).length) ≤ lim) (
          next5 (s4.1 ++ ([y9] : List Int), IntKind.i64.wrap (s4.2 + 1)))
      else
        iter (fun (s11 : (List Int) × Int) next12 =>
          if decide (s11.2 < (a0.From.length : Int)) then
            (idx a1.Identity a3).bind fun y16 =>
            (idx a2.Arrows (IntKind.i64.wrap ((IntKind.i64.wrap (s11.2 * (a1.From.length : Int))) + y16))).bind fun y17 =>
            chk (s11.1.length + (([y17] : List Int).length) ≤ lim) (
              next12 (s11.1 ++ ([y17] : List Int), IntKind.i64.wrap (s11.2 + 1)))
          else
            (M.spec_l06Make a0 a2.Target s4.1 s11.1).bind fun v19 =>
            some (v19, 0)) fuel (([] : List Int), 0)) fuel (([] : List Int), 0)

def M.impl_FixSecond (a0 : XCategory) (a1 : XCategory) (a2 : XFunctor) (a3 : Int) : Option (XFunctor × Int) :=
  (M.impl_twoVariables a0 a1 a2).bind fun v1 =>
  if v1 != 0 then
    some ((⟨(⟨0, [], [], [], []⟩ : XCategory), (⟨0, [], [], [], []⟩ : XCategory), [], []⟩ : XFunctor), v1)
  else
    (M.impl_inRange a3 0 (IntKind.i64.wrap (a1.Objects - 1))).bind fun v3 =>
    if v3 then
      (M.impl_fromProduct a0 a1 a2).bind fun v5 =>
      if v5 then
        iter (fun (s7 : (List Int) × Int) next8 =>
          if decide (s7.2 < a0.Objects) then
            (idx a2.Objects (IntKind.i64.wrap ((IntKind.i64.wrap (s7.2 * a1.Objects)) + a3))).bind fun y12 =>
            chk (s7.1.length + (([y12] : List Int).length) ≤ lim) (
              next8 (s7.1 ++ ([y12] : List Int), IntKind.i64.wrap (s7.2 + 1)))
          else
            iter (fun (s14 : (List Int) × Int) next15 =>
              (M.impl_Category_arrows a0).bind fun v18 =>
              if decide (s14.2 < v18) then
                (M.impl_Category_arrows a1).bind fun v20 =>
                (idx a1.Identity a3).bind fun y21 =>
                (idx a2.Arrows (IntKind.i64.wrap ((IntKind.i64.wrap (s14.2 * v20)) + y21))).bind fun y22 =>
                chk (s14.1.length + (([y22] : List Int).length) ≤ lim) (
                  next15 (s14.1 ++ ([y22] : List Int), IntKind.i64.wrap (s14.2 + 1)))
              else
                (M.impl_functor a0 a2.Target s7.1 s14.1).bind fun v24 =>
                some (v24, 0)) fuel (([] : List Int), 0)) fuel (([] : List Int), 0)
      else
        some ((⟨(⟨0, [], [], [], []⟩ : XCategory), (⟨0, [], [], [], []⟩ : XCategory), [], []⟩ : XFunctor), 5)
    else
      some ((⟨(⟨0, [], [], [], []⟩ : XCategory), (⟨0, [], [], [], []⟩ : XCategory), [], []⟩ : XFunctor), 2)

def M.laws_FnExactFixSecond (a0 : XCategory) (a1 : XCategory) (a2 : XFunctor) (a3 : Int) : Option Bool :=
  (M.laws_szCategory a0 1048576).bind fun v1 =>
  if decide (v1 < 0) then
    some true
  else
    (M.laws_szCategory a1 v1).bind fun v3 =>
    if decide (v3 < 0) then
      some true
    else
      (M.laws_szFunctor a2 v3).bind fun v5 =>
      if decide (v5 < 0) then
        some true
      else
        (M.laws_toCategory a0).bind fun v7 =>
        (M.laws_toCategory a1).bind fun v8 =>
        (M.laws_toFunctor a2).bind fun v9 =>
        (M.spec_FixSecond v7 v8 v9 a3).bind fun v10 =>
        (M.impl_FixSecond v7 v8 v9 a3).bind fun v11 =>
        (M.laws_eqFunctor v11.1 v10.1).bind fun v12 =>
        if v12 then
          if v11.2 != v10.2 then
            some false
          else
            (M.laws_eqCategory v7 v7).bind fun v15 =>
            if v15 then
              (M.laws_eqCategory v8 v8).bind fun v17 =>
              if v17 then
                (M.laws_eqFunctor v9 v9).bind fun v19 =>
                if v19 then
                  (M.laws_markCategory v7 1).bind fun v21 =>
                  (M.laws_markCategory v8 v21.1).bind fun v22 =>
                  (M.laws_markFunctor v9 v22.1).bind fun v23 =>
                  if decide (v23.1 < 0) then
                    some false
                  else
                    (M.laws_markFunctor v11.1 1).bind fun v25 =>
                    (M.laws_heldFunctor v25.2 1).bind fun v26 =>
                    if decide (v26 < 0) then
                      some false
                    else
                      if v26 != v25.1 then
                        some false
                      else
                        some true
                else
                  some false
              else
                some false
            else
              some false
        else
          some false

end Go.Gx
