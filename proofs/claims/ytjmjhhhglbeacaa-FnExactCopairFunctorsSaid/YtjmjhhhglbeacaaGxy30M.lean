/- Models of the functions. Printed by wip/gen. -/
import Derived.Test.YtjmjhhhglbeacaaGxvFM
import Derived.Test.YtjmjhhhglbeacaaGxL3M
import Derived.Test.YtjmjhhhglbeacaaGxE1
namespace Go.Gx

def M.spec_l03Sum (a0 : XCategory) (a1 : XCategory) : Option XCategory :=
  (M.spec_l02Own a0).bind fun v1 =>
  iter (fun (s2 : (List Int) × Int) next3 =>
    if decide (s2.2 < a1.Objects) then
      (idx a1.Identity s2.2).bind fun y7 =>
      chk (s2.1.length + (([IntKind.i64.wrap (y7 + (a0.From.length : Int))] : List Int).length) ≤ lim) (
        next3 (s2.1 ++ ([IntKind.i64.wrap (y7 + (a0.From.length : Int))] : List Int), IntKind.i64.wrap (s2.2 + 1)))
    else
      iter (fun (s9 : (List (List Int)) × Int) next10 =>
        if decide (s9.2 < (s9.1.length : Int)) then
          iter (fun (s14 : (List (List Int)) × Int) next15 =>
            if decide (s14.2 < (a1.From.length : Int)) then
              (idx s14.1 s9.2).bind fun y19 =>
              chk (y19.length + (([(-1)] : List Int).length) ≤ lim) (
                next15 (s14.1.set s9.2.toNat (y19 ++ ([(-1)] : List Int)), IntKind.i64.wrap (s14.2 + 1)))
            else
              next10 (s14.1, IntKind.i64.wrap (s9.2 + 1))) fuel (s9.1, 0)
        else
          iter (fun (s21 : (List Int) × (List Int) × (List (List Int)) × Int) next22 =>
            if decide (s21.2.2.2 < (a1.From.length : Int)) then
              (idx a1.From s21.2.2.2).bind fun y26 =>
              chk (s21.1.length + (([IntKind.i64.wrap (y26 + a0.Objects)] : List Int).length) ≤ lim) (
                (idx a1.To s21.2.2.2).bind fun y28 =>
                chk (s21.2.1.length + (([IntKind.i64.wrap (y28 + a0.Objects)] : List Int).length) ≤ lim) (
                  iter (fun (s30 : (List Int) × Int) next31 =>
                    if decide (s30.2 < (a0.From.length : Int)) then
                      chk (s30.1.length + (([(-1)] : List Int).length) ≤ lim) (
                        next31 (s30.1 ++ ([(-1)] : List Int), IntKind.i64.wrap (s30.2 + 1)))
                    else
                      iter (fun (s36 : (List Int) × Int) next37 =>
                        if decide (s36.2 < (a1.From.length : Int)) then
                          (idx a1.Composites s21.2.2.2).bind fun y41 =>
                          (idx y41 s36.2).bind fun y42 =>
                          if decide (y42 ≥ 0) then
                            chk (s36.1.length + (([IntKind.i64.wrap (y42 + (a0.From.length : Int))] : List Int).length) ≤ lim) (
                              next37 (s36.1 ++ ([IntKind.i64.wrap (y42 + (a0.From.length : Int))] : List Int), IntKind.i64.wrap (s36.2 + 1)))
                          else
                            chk (s36.1.length + (([y42] : List Int).length) ≤ lim) (
                              next37 (s36.1 ++ ([y42] : List Int), IntKind.i64.wrap (s36.2 + 1)))
                        else
                          chk (s21.2.2.1.length + 1 ≤ lim) (
                            next22 (s21.1 ++ ([IntKind.i64.wrap (y26 + a0.Objects)] : List Int), s21.2.1 ++ ([IntKind.i64.wrap (y28 + a0.Objects)] : List Int), s21.2.2.1 ++ [s36.1], IntKind.i64.wrap (s21.2.2.2 + 1)))) fuel (s30.1, 0)) fuel (([] : List Int), 0)))
            else
              some (⟨IntKind.i64.wrap (a0.Objects + a1.Objects), s21.1, s21.2.1, s2.1, s21.2.2.1⟩ : XCategory)) fuel (v1.From, v1.To, s9.1, 0)) fuel (v1.Composites, 0)) fuel (v1.Identity, 0)

def M.impl_added_1 (a0 : Int) (a1 : Int) (a2 : Int) (a3 : XCategory) (a4 : Int) (a5 : XCategory) (a6 : XCategory) (a7 : Int) : Option Int :=
  joinM (fun (_ : Unit) =>
    (idx a6.From a0).bind fun y4 =>
    (idx a6.To a1).bind fun y5 =>
    some (IntKind.i64.wrap ((IntKind.i64.wrap ((IntKind.i64.wrap (a4 + (IntKind.i64.wrap (y4 * a5.Objects)))) + y5)) - a7))) fun k2 =>
  if decide (a0 < a2) then
    if decide (a1 < a2) then
      (M.impl_Category_then a3 a0 a1).bind fun v8 =>
      some v8
    else
      (M.impl_inRange a0 a2 (IntKind.i64.wrap (a4 - 1))).bind fun v9 =>
      if v9 then
        (M.impl_Category_then a5 (IntKind.i64.wrap (a0 - a2)) (IntKind.i64.wrap (a1 - a2))).bind fun v11 =>
        some (IntKind.i64.wrap (a2 + v11))
      else
        k2 ()
  else
    (M.impl_inRange a0 a2 (IntKind.i64.wrap (a4 - 1))).bind fun v12 =>
    if v12 then
      (M.impl_Category_then a5 (IntKind.i64.wrap (a0 - a2)) (IntKind.i64.wrap (a1 - a2))).bind fun v14 =>
      some (IntKind.i64.wrap (a2 + v14))
    else
      k2 ()

def M.impl_added (a0 : XCategory) (a1 : XCategory) (a2 : Bool) : Option (XCategory × Bool) :=
  (M.impl_Category_arrows a0).bind fun v1 =>
  (M.impl_clone a0.From).bind fun v2 =>
  (M.impl_clone a0.To).bind fun v3 =>
  (M.impl_clone a0.Identity).bind fun v4 =>
  iter (fun (s5 : (List Int) × (List Int) × Int) next6 =>
    if decide (s5.2.2 < (a1.From.length : Int)) then
      (idx a1.From s5.2.2).bind fun y10 =>
      chk (s5.1.length + (([IntKind.i64.wrap (a0.Objects + y10)] : List Int).length) ≤ lim) (
        (idx a1.To s5.2.2).bind fun y12 =>
        chk (s5.2.1.length + (([IntKind.i64.wrap (a0.Objects + y12)] : List Int).length) ≤ lim) (
          next6 (s5.1 ++ ([IntKind.i64.wrap (a0.Objects + y10)] : List Int), s5.2.1 ++ ([IntKind.i64.wrap (a0.Objects + y12)] : List Int), IntKind.i64.wrap (s5.2.2 + 1))))
    else
      iter (fun (s14 : (List Int) × Int) next15 =>
        if decide (s14.2 < (a1.Identity.length : Int)) then
          (idx a1.Identity s14.2).bind fun y19 =>
          chk (s14.1.length + (([IntKind.i64.wrap (v1 + y19)] : List Int).length) ≤ lim) (
            next15 (s14.1 ++ ([IntKind.i64.wrap (v1 + y19)] : List Int), IntKind.i64.wrap (s14.2 + 1)))
        else
          (M.impl_Category_arrows (⟨IntKind.i64.wrap (a0.Objects + a1.Objects), s5.1, s5.2.1, s14.1, []⟩ : XCategory)).bind fun v21 =>
          joinM (fun (s22 : (List Int) × (List Int)) =>
            if decide ((IntKind.i64.wrap (a0.Objects + a1.Objects)) > 8) then
              some ((⟨0, [], [], [], []⟩ : XCategory), false)
            else
              (M.impl_Category_arrows (⟨IntKind.i64.wrap (a0.Objects + a1.Objects), s22.1, s22.2, s14.1, []⟩ : XCategory)).bind fun v26 =>
              if decide (v26 > 40) then
                some ((⟨0, [], [], [], []⟩ : XCategory), false)
              else
                (M.impl_Category_table (⟨IntKind.i64.wrap (a0.Objects + a1.Objects), s22.1, s22.2, s14.1, []⟩ : XCategory) (fun (x0 : Int) (x1 : Int) => M.impl_added_1 x0 x1 v1 a0 v21 a1 (⟨IntKind.i64.wrap (a0.Objects + a1.Objects), s22.1, s22.2, s14.1, []⟩ : XCategory) a0.Objects)).bind fun v28 =>
                some (v28, true)) fun k23 =>
          if a2 then
            iter (fun (s30 : (List Int) × (List Int) × Int) next31 =>
              if decide (s30.2.2 < a0.Objects) then
                iter (fun (s35 : (List Int) × (List Int) × Int) next36 =>
                  if decide (s35.2.2 < a1.Objects) then
                    chk (s35.1.length + (([s30.2.2] : List Int).length) ≤ lim) (
                      chk (s35.2.1.length + (([IntKind.i64.wrap (a0.Objects + s35.2.2)] : List Int).length) ≤ lim) (
                        next36 (s35.1 ++ ([s30.2.2] : List Int), s35.2.1 ++ ([IntKind.i64.wrap (a0.Objects + s35.2.2)] : List Int), IntKind.i64.wrap (s35.2.2 + 1))))
                  else
                    next31 (s35.1, s35.2.1, IntKind.i64.wrap (s30.2.2 + 1))) fuel (s30.1, s30.2.1, 0)
              else
                k23 (s30.1, s30.2.1)) fuel (s5.1, s5.2.1, 0)
          else
            k23 (s5.1, s5.2.1)) fuel (v4, 0)) fuel (v2, v3, 0)

def M.spec_CopairFunctors (a0 : XFunctor) (a1 : XFunctor) : Option (XFunctor × Int) :=
  (M.spec_l06Two a0 a1).bind fun v1 =>
  if v1 != 0 then
    some ((⟨(⟨0, [], [], [], []⟩ : XCategory), (⟨0, [], [], [], []⟩ : XCategory), [], []⟩ : XFunctor), v1)
  else
    (M.spec_l02Same a0.Target a1.Target).bind fun v3 =>
    if v3 then
      (M.spec_l03Sum a0.Source a1.Source).bind fun v5 =>
      (M.spec_l02Fits v5).bind fun v6 =>
      if v6 then
        (M.spec_l01Own a0.Objects).bind fun v8 =>
        chk (v8.length + a1.Objects.length ≤ lim) (
          (M.spec_l01Own a0.Arrows).bind fun v10 =>
          chk (v10.length + a1.Arrows.length ≤ lim) (
            (M.spec_l06Make v5 a0.Target (v8 ++ a1.Objects) (v10 ++ a1.Arrows)).bind fun v12 =>
            some (v12, 0)))
      else
        some ((⟨(⟨0, [], [], [], []⟩ : XCategory), (⟨0, [], [], [], []⟩ : XCategory), [], []⟩ : XFunctor), 3)
    else
      some ((⟨(⟨0, [], [], [], []⟩ : XCategory), (⟨0, [], [], [], []⟩ : XCategory), [], []⟩ : XFunctor), 5)

def M.impl_CopairFunctors (a0 : XFunctor) (a1 : XFunctor) : Option (XFunctor × Int) :=
  (M.impl_areFunctors ([a0, a1] : List XFunctor)).bind fun v1 =>
  if v1 then
    (M.impl_sameCategory a0.Target a1.Target).bind fun v3 =>
    if v3 then
      (M.impl_added a0.Source a1.Source false).bind fun v5 =>
      if v5.2 then
        (M.impl_clone a0.Objects).bind fun v7 =>
        chk (v7.length + a1.Objects.length ≤ lim) (
          (M.impl_clone a0.Arrows).bind fun v9 =>
          chk (v9.length + a1.Arrows.length ≤ lim) (
            (M.impl_functor v5.1 a0.Target (v7 ++ a1.Objects) (v9 ++ a1.Arrows)).bind fun v11 =>
            some (v11, 0)))
      else
        some ((⟨(⟨0, [], [], [], []⟩ : XCategory), (⟨0, [], [], [], []⟩ : XCategory), [], []⟩ : XFunctor), 3)
    else
      some ((⟨(⟨0, [], [], [], []⟩ : XCategory), (⟨0, [], [], [], []⟩ : XCategory), [], []⟩ : XFunctor), 5)
  else
    some ((⟨(⟨0, [], [], [], []⟩ : XCategory), (⟨0, [], [], [], []⟩ : XCategory), [], []⟩ : XFunctor), 1)

def M.laws_FnExactCopairFunctors (a0 : XFunctor) (a1 : XFunctor) : Option Bool :=
  (M.laws_szFunctor a0 1048576).bind fun v1 =>
  if decide (v1 < 0) then
    some true
  else
    (M.laws_szFunctor a1 v1).bind fun v3 =>
    if decide (v3 < 0) then
      some true
    else
      (M.laws_toFunctor a0).bind fun v5 =>
      (M.laws_toFunctor a1).bind fun v6 =>
      (M.spec_CopairFunctors v5 v6).bind fun v7 =>
      (M.impl_CopairFunctors v5 v6).bind fun v8 =>
      (M.laws_eqFunctor v8.1 v7.1).bind fun v9 =>
      if v9 then
        if v8.2 != v7.2 then
          some false
        else
          (M.laws_eqFunctor v5 v5).bind fun v12 =>
          if v12 then
            (M.laws_eqFunctor v6 v6).bind fun v14 =>
            if v14 then
              (M.laws_markFunctor v5 1).bind fun v16 =>
              (M.laws_markFunctor v6 v16.1).bind fun v17 =>
              if decide (v17.1 < 0) then
                some false
              else
                (M.laws_markFunctor v8.1 1).bind fun v19 =>
                (M.laws_heldFunctor v19.2 1).bind fun v20 =>
                if decide (v20 < 0) then
                  some false
                else
                  if v20 != v19.1 then
                    some false
                  else
                    some true
            else
              some false
          else
            some false
      else
        some false

end Go.Gx
