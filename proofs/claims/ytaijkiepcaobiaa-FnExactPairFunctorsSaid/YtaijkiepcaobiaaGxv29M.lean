/- Models of the functions. Printed by wip/gen. -/
import Derived.Test.YtaijkiepcaobiaaGxvFM
import Derived.Test.YtaijkiepcaobiaaGxL3M
import Derived.Test.YtaijkiepcaobiaaGxE1
namespace Go.Gx

def M.spec_l06Zip (a0 : List Int) (a1 : List Int) (a2 : Int) : Option (List Int) :=
  iter (fun (s1 : (List Int) × Int) next2 =>
    if decide (s1.2 < (a0.length : Int)) then
      (idx a0 s1.2).bind fun y6 =>
      (idx a1 s1.2).bind fun y7 =>
      chk (s1.1.length + (([IntKind.i64.wrap ((IntKind.i64.wrap (y6 * a2)) + y7)] : List Int).length) ≤ lim) (
        next2 (s1.1 ++ ([IntKind.i64.wrap ((IntKind.i64.wrap (y6 * a2)) + y7)] : List Int), IntKind.i64.wrap (s1.2 + 1)))
    else
      some s1.1) fuel (([] : List Int), 0)

def M.spec_PairFunctors (a0 : XFunctor) (a1 : XFunctor) : Option (XFunctor × Int) :=
  (M.spec_l06Two a0 a1).bind fun v1 =>
  if v1 != 0 then
    some ((⟨(⟨0, [], [], [], []⟩ : XCategory), (⟨0, [], [], [], []⟩ : XCategory), [], []⟩ : XFunctor), v1)
  else
    (M.spec_l02Same a0.Source a1.Source).bind fun v3 =>
    if v3 then
      (M.spec_l03Product a0.Target a1.Target).bind fun v5 =>
      (M.spec_l02Fits v5).bind fun v6 =>
      if v6 then
        (M.spec_l06Zip a0.Objects a1.Objects a1.Target.Objects).bind fun v8 =>
        (M.spec_l06Zip a0.Arrows a1.Arrows (a1.Target.From.length : Int)).bind fun v9 =>
        (M.spec_l06Make a0.Source v5 v8 v9).bind fun v10 =>
        some (v10, 0)
      else
        some ((⟨(⟨0, [], [], [], []⟩ : XCategory), (⟨0, [], [], [], []⟩ : XCategory), [], []⟩ : XFunctor), 3)
    else
      some ((⟨(⟨0, [], [], [], []⟩ : XCategory), (⟨0, [], [], [], []⟩ : XCategory), [], []⟩ : XFunctor), 5)

def M.impl_PairFunctors (a0 : XFunctor) (a1 : XFunctor) : Option (XFunctor × Int) :=
  (M.impl_areFunctors ([a0, a1] : List XFunctor)).bind fun v1 =>
  if v1 then
    (M.impl_sameCategory a0.Source a1.Source).bind fun v3 =>
    if v3 then
      (M.impl_product a0.Target a1.Target).bind fun v5 =>
      if v5.2 then
        (M.impl_clone a0.Objects).bind fun v7 =>
        (M.impl_clone a0.Arrows).bind fun v8 =>
        iter (fun (s9 : (List Int) × Int) next10 =>
          if decide (s9.2 < (v7.length : Int)) then
            (idx s9.1 s9.2).bind fun y14 =>
            (idx a1.Objects s9.2).bind fun y15 =>
            next10 (s9.1.set s9.2.toNat (IntKind.i64.wrap ((IntKind.i64.wrap (y14 * a1.Target.Objects)) + y15)), IntKind.i64.wrap (s9.2 + 1))
          else
            iter (fun (s16 : (List Int) × Int) next17 =>
              if decide (s16.2 < (v8.length : Int)) then
                (idx s16.1 s16.2).bind fun y21 =>
                (M.impl_Category_arrows a1.Target).bind fun v22 =>
                (idx a1.Arrows s16.2).bind fun y23 =>
                next17 (s16.1.set s16.2.toNat (IntKind.i64.wrap ((IntKind.i64.wrap (y21 * v22)) + y23)), IntKind.i64.wrap (s16.2 + 1))
              else
                (M.impl_functor a0.Source v5.1 s9.1 s16.1).bind fun v24 =>
                some (v24, 0)) fuel (v8, 0)) fuel (v7, 0)
      else
        some ((⟨(⟨0, [], [], [], []⟩ : XCategory), (⟨0, [], [], [], []⟩ : XCategory), [], []⟩ : XFunctor), 3)
    else
      some ((⟨(⟨0, [], [], [], []⟩ : XCategory), (⟨0, [], [], [], []⟩ : XCategory), [], []⟩ : XFunctor), 5)
  else
    some ((⟨(⟨0, [], [], [], []⟩ : XCategory), (⟨0, [], [], [], []⟩ : XCategory), [], []⟩ : XFunctor), 1)

def M.laws_FnExactPairFunctors (a0 : XFunctor) (a1 : XFunctor) : Option Bool :=
  (M.laws_szFunctor a0 1048576).bind fun v1 =>
  if decide (v1 < 0) then
    some true
  else
    (M.laws_szFunctor a1 v1).bind fun v3 =>
    if decide (v3 < 0) then
      some true
    else
      (M.laws_toFunctor a0).bind fun v5 =>
      (M.laws_toFunctor a1).bind fun v6 =>
      (M.spec_PairFunctors v5 v6).bind fun v7 =>
      (M.impl_PairFunctors v5 v6).bind fun v8 =>
      (M.laws_eqFunctor v8.1 v7.1).bind fun v9 =>
      if v9 then
        if v8.2 != v7.2 then
          some false
        else
          (M.laws_eqFunctor v5 v5).bind fun v12 =>
          if v12 then
            (M.laws_eqFunctor v6 v6).bind fun v14 =>
            if v14 then
              (M.laws_markFunctor v5 1).bind fun v16 =>
              (M.laws_markFunctor v6 v16.1).bind fun v17 =>
              if decide (v17.1 < 0) then
                some false
              else
                (M.laws_markFunctor v8.1 1).bind fun v19 =>
                (M.laws_heldFunctor v19.2 1).bind fun v20 =>
                if decide (v20 < 0) then
                  some false
                else
                  if v20 != v19.1 then
                    some false
                  else
                    some true
            else
              some false
          else
            some false
      else
        some false

end Go.Gx
