/- Models of the functions. Printed by wip/gen. -/
import Derived.Test.YtaijkiepcaobiaaGxvFM
import Derived.Test.YtaijkiepcaobiaaGxL3M
import Derived.Test.YtaijkiepcaobiaaGxE1
namespace Go.Gx

def M.spec_l06Pairs (a0 : List Int) (a1 : List Int) (a2 : Int) : Option (List Int) :=
  iter (fun (s1 : (List Int) × Int) next2 =>
    if decide (s1.2 < (a0.length : Int)) then
      iter (fun (s6 : (List Int) × Int) next7 =>
        if decide (s6.2 < (a1.length : Int)) then
          (idx a0 s1.2).bind fun y11 =>
          (idx a1 s6.2).bind fun y12 =>
          chk (s6.1.length + (([IntKind.i64.wrap ((IntKind.i64.wrap (y11 * a2)) + y12)] : List Int).length) ≤ lim) (
            next7 (s6.1 ++ ([IntKind.i64.wrap ((IntKind.i64.wrap (y11 * a2)) + y12)] : List Int), IntKind.i64.wrap (s6.2 + 1)))
        else
          next2 (s6.1, IntKind.i64.wrap (s1.2 + 1))) fuel (s1.1, 0)
    else
      some s1.1) fuel (([] : List Int), 0)

def M.spec_ProductFunctor (a0 : XFunctor) (a1 : XFunctor) : Option (XFunctor × Int) :=
  (M.spec_l06Two a0 a1).bind fun v1 =>
  if v1 != 0 then
    some ((⟨(⟨0, [], [], [], []⟩ : XCategory), (⟨0, [], [], [], []⟩ : XCategory), [], []⟩ : XFunctor), v1)
  else
    (M.spec_l03Product a0.Source a1.Source).bind fun v3 =>
    (M.spec_l03Product a0.Target a1.Target).bind fun v4 =>
    (M.spec_l02Fits v3).bind fun v5 =>
    if v5 then
      (M.spec_l02Fits v4).bind fun v7 =>
      if v7 then
        (M.spec_l06Pairs a0.Objects a1.Objects a1.Target.Objects).bind fun v9 =>
        (M.spec_l06Pairs a0.Arrows a1.Arrows (a1.Target.From.length : Int)).bind fun v10 =>
        (M.spec_l06Make v3 v4 v9 v10).bind fun v11 =>
        some (v11, 0)
      else
        some ((⟨(⟨0, [], [], [], []⟩ : XCategory), (⟨0, [], [], [], []⟩ : XCategory), [], []⟩ : XFunctor), 3)
    else
      some ((⟨(⟨0, [], [], [], []⟩ : XCategory), (⟨0, [], [], [], []⟩ : XCategory), [], []⟩ : XFunctor), 3)

def M.impl_ProductFunctor (a0 : XFunctor) (a1 : XFunctor) : Option (XFunctor × Int) :=
  (M.impl_areFunctors ([a0, a1] : List XFunctor)).bind fun v1 =>
  if v1 then
    (M.impl_product a0.Source a1.Source).bind fun v3 =>
    (M.impl_product a0.Target a1.Target).bind fun v4 =>
    if v3.2 then
      if v4.2 then
        iter (fun (s7 : (List Int) × Int) next8 =>
          if decide (s7.2 < (a0.Objects.length : Int)) then
            (idx a0.Objects s7.2).bind fun y12 =>
            iter (fun (s13 : (List Int) × Int) next14 =>
              if decide (s13.2 < (a1.Objects.length : Int)) then
                (idx a1.Objects s13.2).bind fun y18 =>
                chk (s13.1.length + (([IntKind.i64.wrap ((IntKind.i64.wrap (y12 * a1.Target.Objects)) + y18)] : List Int).length) ≤ lim) (
                  next14 (s13.1 ++ ([IntKind.i64.wrap ((IntKind.i64.wrap (y12 * a1.Target.Objects)) + y18)] : List Int), IntKind.i64.wrap (s13.2 + 1)))
              else
                next8 (s13.1, IntKind.i64.wrap (s7.2 + 1))) fuel (s7.1, 0)
          else
            iter (fun (s20 : (List Int) × Int) next21 =>
              if decide (s20.2 < (a0.Arrows.length : Int)) then
                (idx a0.Arrows s20.2).bind fun y25 =>
                iter (fun (s26 : (List Int) × Int) next27 =>
                  if decide (s26.2 < (a1.Arrows.length : Int)) then
                    (idx a1.Arrows s26.2).bind fun y31 =>
                    (M.impl_Category_arrows a1.Target).bind fun v32 =>
                    chk (s26.1.length + (([IntKind.i64.wrap ((IntKind.i64.wrap (y25 * v32)) + y31)] : List Int).length) ≤ lim) (
                      next27 (s26.1 ++ ([IntKind.i64.wrap ((IntKind.i64.wrap (y25 * v32)) + y31)] : List Int), IntKind.i64.wrap (s26.2 + 1)))
                  else
                    next21 (s26.1, IntKind.i64.wrap (s20.2 + 1))) fuel (s20.1, 0)
              else
                (M.impl_functor v3.1 v4.1 s7.1 s20.1).bind fun v34 =>
                some (v34, 0)) fuel (([] : List Int), 0)) fuel (([] : List Int), 0)
      else
        some ((⟨(⟨0, [], [], [], []⟩ : XCategory), (⟨0, [], [], [], []⟩ : XCategory), [], []⟩ : XFunctor), 3)
    else
      some ((⟨(⟨0, [], [], [], []⟩ : XCategory), (⟨0, [], [], [], []⟩ : XCategory), [], []⟩ : XFunctor), 3)
  else
    some ((⟨(⟨0, [], [], [], []⟩ : XCategory), (⟨0, [], [], [], []⟩ : XCategory), [], []⟩ : XFunctor), 1)

def M.laws_FnExactProductFunctor (a0 : XFunctor) (a1 : XFunctor) : Option Bool :=
  (M.laws_szFunctor a0 1048576).bind fun v1 =>
  if decide (v1 < 0) then
    some true
  else
    (M.laws_szFunctor a1 v1).bind fun v3 =>
    if decide (v3 < 0) then
      some true
    else
      (M.laws_toFunctor a0).bind fun v5 =>
      (M.laws_toFunctor a1).bind fun v6 =>
      (M.spec_ProductFunctor v5 v6).bind fun v7 =>
      (M.impl_ProductFunctor v5 v6).bind fun v8 =>
      (M.laws_eqFunctor v8.1 v7.1).bind fun v9 =>
      if v9 then
        if v8.2 != v7.2 then
          some false
        else
          (M.laws_eqFunctor v5 v5).bind fun v12 =>
          if v12 then
            (M.laws_eqFunctor v6 v6).bind fun v14 =>
            if v14 then
              (M.laws_markFunctor v5 1).bind fun v16 =>
              (M.laws_markFunctor v6 v16.1).bind fun v17 =>
              if decide (v17.1 < 0) then
                some false
              else
                (M.laws_markFunctor v8.1 1).bind fun v19 =>
                (M.laws_heldFunctor v19.2 1).bind fun v20 =>
                if decide (v20 < 0) then
                  some false
                else
                  if v20 != v19.1 then
                    some false
                  else
                    some true
            else
              some false
          else
            some false
      else
        some false

end Go.Gx
