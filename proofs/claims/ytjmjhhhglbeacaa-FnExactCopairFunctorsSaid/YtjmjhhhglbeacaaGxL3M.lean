/- Models of the functions. Printed by wip/gen. -/
import Derived.Test.YtjmjhhhglbeacaaGxNuM
import Derived.Test.YtjmjhhhglbeacaaGxE1
namespace Go.Gx

def M.spec_l03Product (a0 : XCategory) (a1 : XCategory) : Option XCategory :=
  iter (fun (s1 : (List Int) × Int) next2 =>
    if decide (s1.2 < a0.Objects) then
      iter (fun (s6 : (List Int) × Int) next7 =>
        if decide (s6.2 < a1.Objects) then
          (idx a0.Identity s1.2).bind fun y11 =>
          (idx a1.Identity s6.2).bind fun y12 =>
          chk (s6.1.length + (([IntKind.i64.wrap ((IntKind.i64.wrap (y11 * (a1.From.length : Int))) + y12)] : List Int).length) ≤ lim) (
            next7 (s6.1 ++ ([IntKind.i64.wrap ((IntKind.i64.wrap (y11 * (a1.From.length : Int))) + y12)] : List Int), IntKind.i64.wrap (s6.2 + 1)))
        else
          next2 (s6.1, IntKind.i64.wrap (s1.2 + 1))) fuel (s1.1, 0)
    else
      iter (fun (s14 : (List Int) × (List Int) × (List (List Int)) × Int) next15 =>
        if decide (s14.2.2.2 < (a0.From.length : Int)) then
          iter (fun (s19 : (List Int) × (List Int) × (List (List Int)) × Int) next20 =>
            if decide (s19.2.2.2 < (a1.From.length : Int)) then
              (idx a0.From s14.2.2.2).bind fun y24 =>
              (idx a1.From s19.2.2.2).bind fun y25 =>
              chk (s19.1.length + (([IntKind.i64.wrap ((IntKind.i64.wrap (y24 * a1.Objects)) + y25)] : List Int).length) ≤ lim) (
                (idx a0.To s14.2.2.2).bind fun y27 =>
                (idx a1.To s19.2.2.2).bind fun y28 =>
                chk (s19.2.1.length + (([IntKind.i64.wrap ((IntKind.i64.wrap (y27 * a1.Objects)) + y28)] : List Int).length) ≤ lim) (
                  iter (fun (s30 : (List Int) × Int) next31 =>
                    if decide (s30.2 < (a0.From.length : Int)) then
                      iter (fun (s35 : (List Int) × Int) next36 =>
                        if decide (s35.2 < (a1.From.length : Int)) then
                          (idx a0.Composites s14.2.2.2).bind fun y40 =>
                          (idx y40 s30.2).bind fun y41 =>
                          if decide (y41 ≥ 0) then
                            (idx a1.Composites s19.2.2.2).bind fun y43 =>
                            (idx y43 s35.2).bind fun y44 =>
                            if decide (y44 ≥ 0) then
                              chk (s35.1.length + (([IntKind.i64.wrap ((IntKind.i64.wrap (y41 * (a1.From.length : Int))) + y44)] : List Int).length) ≤ lim) (
                                next36 (s35.1 ++ ([IntKind.i64.wrap ((IntKind.i64.wrap (y41 * (a1.From.length : Int))) + y44)] : List Int), IntKind.i64.wrap (s35.2 + 1)))
                            else
                              chk (s35.1.length + (([(-1)] : List Int).length) ≤ lim) (
                                next36 (s35.1 ++ ([(-1)] : List Int), IntKind.i64.wrap (s35.2 + 1)))
                          else
                            chk (s35.1.length + (([(-1)] : List Int).length) ≤ lim) (
                              next36 (s35.1 ++ ([(-1)] : List Int), IntKind.i64.wrap (s35.2 + 1)))
                        else
                          next31 (s35.1, IntKind.i64.wrap (s30.2 + 1))) fuel (s30.1, 0)
                    else
                      chk (s19.2.2.1.length + 1 ≤ lim) (
                        next20 (s19.1 ++ ([IntKind.i64.wrap ((IntKind.i64.wrap (y24 * a1.Objects)) + y25)] : List Int), s19.2.1 ++ ([IntKind.i64.wrap ((IntKind.i64.wrap (y27 * a1.Objects)) + y28)] : List Int), s19.2.2.1 ++ [s30.1], IntKind.i64.wrap (s19.2.2.2 + 1)))) fuel (([] : List Int), 0)))
            else
              next15 (s19.1, s19.2.1, s19.2.2.1, IntKind.i64.wrap (s14.2.2.2 + 1))) fuel (s14.1, s14.2.1, s14.2.2.1, 0)
        else
          some (⟨IntKind.i64.wrap (a0.Objects * a1.Objects), s14.1, s14.2.1, s1.1, s14.2.2.1⟩ : XCategory)) fuel (([] : List Int), ([] : List Int), ([] : List (List Int)), 0)) fuel (([] : List Int), 0)

def M.spec_l02Fits (a0 : XCategory) : Option Bool :=
  if decide (a0.Objects ≤ 8) then
    some (decide ((a0.From.length : Int) ≤ 40))
  else
    some false

def M.spec_l06Project (a0 : XCategory) (a1 : XCategory) (a2 : Bool) : Option (XFunctor × Int) :=
  (M.spec_l02Is a0).bind fun v1 =>
  if v1 then
    (M.spec_l02Is a1).bind fun v3 =>
    if v3 then
      (M.spec_l03Product a0 a1).bind fun v5 =>
      (M.spec_l02Fits v5).bind fun v6 =>
      if v6 then
        iter (fun (s8 : (List Int) × Int) next9 =>
          if decide (s8.2 < v5.Objects) then
            if a2 then
              chk (a1.Objects ≠ 0) (
                chk (s8.1.length + (([s8.2.tmod a1.Objects] : List Int).length) ≤ lim) (
                  next9 (s8.1 ++ ([s8.2.tmod a1.Objects] : List Int), IntKind.i64.wrap (s8.2 + 1))))
            else
              chk (a1.Objects ≠ 0) (
                chk (s8.1.length + (([IntKind.i64.wrap (s8.2.tdiv a1.Objects)] : List Int).length) ≤ lim) (
                  next9 (s8.1 ++ ([IntKind.i64.wrap (s8.2.tdiv a1.Objects)] : List Int), IntKind.i64.wrap (s8.2 + 1))))
          else
            iter (fun (s18 : (List Int) × Int) next19 =>
              if decide (s18.2 < (v5.From.length : Int)) then
                if a2 then
                  chk ((a1.From.length : Int) ≠ 0) (
                    chk (s18.1.length + (([s18.2.tmod (a1.From.length : Int)] : List Int).length) ≤ lim) (
                      next19 (s18.1 ++ ([s18.2.tmod (a1.From.length : Int)] : List Int), IntKind.i64.wrap (s18.2 + 1))))
                else
                  chk ((a1.From.length : Int) ≠ 0) (
                    chk (s18.1.length + (([IntKind.i64.wrap (s18.2.tdiv (a1.From.length : Int))] : List Int).length) ≤ lim) (
                      next19 (s18.1 ++ ([IntKind.i64.wrap (s18.2.tdiv (a1.From.length : Int))] : List Int), IntKind.i64.wrap (s18.2 + 1))))
              else
                if a2 then
                  (M.spec_l06Make v5 a1 s8.1 s18.1).bind fun v29 =>
                  some (v29, 0)
                else
                  (M.spec_l06Make v5 a0 s8.1 s18.1).bind fun v30 =>
                  some (v30, 0)) fuel (([] : List Int), 0)) fuel (([] : List Int), 0)
      else
        some ((⟨(⟨0, [], [], [], []⟩ : XCategory), (⟨0, [], [], [], []⟩ : XCategory), [], []⟩ : XFunctor), 3)
    else
      some ((⟨(⟨0, [], [], [], []⟩ : XCategory), (⟨0, [], [], [], []⟩ : XCategory), [], []⟩ : XFunctor), 1)
  else
    some ((⟨(⟨0, [], [], [], []⟩ : XCategory), (⟨0, [], [], [], []⟩ : XCategory), [], []⟩ : XFunctor), 1)

def M.spec_FirstProjection (a0 : XCategory) (a1 : XCategory) : Option (XFunctor × Int) :=
  (M.spec_l06Project a0 a1 false).bind fun v1 =>
  some (v1.1, v1.2)

def M.impl_product_1 (a0 : Int) (a1 : Int) (a2 : XCategory) (a3 : Int) (a4 : XCategory) : Option Int :=
  chk (a3 ≠ 0) (
    (M.impl_Category_then a2 (IntKind.i64.wrap (a0.tdiv a3)) (IntKind.i64.wrap (a1.tdiv a3))).bind fun v2 =>
    (M.impl_Category_then a4 (a0.tmod a3) (a1.tmod a3)).bind fun v3 =>
    some (IntKind.i64.wrap ((IntKind.i64.wrap (v2 * a3)) + v3)))

def M.impl_product (a0 : XCategory) (a1 : XCategory) : Option (XCategory × Bool) :=
  (M.impl_Category_arrows a1).bind fun v1 =>
  if decide ((IntKind.i64.wrap (a0.Objects * a1.Objects)) > 8) then
    some ((⟨0, [], [], [], []⟩ : XCategory), false)
  else
    (M.impl_Category_arrows a0).bind fun v3 =>
    if decide ((IntKind.i64.wrap (v3 * v1)) > 40) then
      some ((⟨0, [], [], [], []⟩ : XCategory), false)
    else
      iter (fun (s5 : (List Int) × (List Int) × Int) next6 =>
        if decide (s5.2.2 < (a0.From.length : Int)) then
          iter (fun (s10 : (List Int) × (List Int) × Int) next11 =>
            if decide (s10.2.2 < (a1.From.length : Int)) then
              (idx a0.From s5.2.2).bind fun y15 =>
              (idx a1.From s10.2.2).bind fun y16 =>
              chk (s10.1.length + (([IntKind.i64.wrap ((IntKind.i64.wrap (y15 * a1.Objects)) + y16)] : List Int).length) ≤ lim) (
                (idx a0.To s5.2.2).bind fun y18 =>
                (idx a1.To s10.2.2).bind fun y19 =>
                chk (s10.2.1.length + (([IntKind.i64.wrap ((IntKind.i64.wrap (y18 * a1.Objects)) + y19)] : List Int).length) ≤ lim) (
                  next11 (s10.1 ++ ([IntKind.i64.wrap ((IntKind.i64.wrap (y15 * a1.Objects)) + y16)] : List Int), s10.2.1 ++ ([IntKind.i64.wrap ((IntKind.i64.wrap (y18 * a1.Objects)) + y19)] : List Int), IntKind.i64.wrap (s10.2.2 + 1))))
            else
              next6 (s10.1, s10.2.1, IntKind.i64.wrap (s5.2.2 + 1))) fuel (s5.1, s5.2.1, 0)
        else
          iter (fun (s21 : (List Int) × Int) next22 =>
            if decide (s21.2 < (a0.Identity.length : Int)) then
              (idx a0.Identity s21.2).bind fun y26 =>
              iter (fun (s27 : (List Int) × Int) next28 =>
                if decide (s27.2 < (a1.Identity.length : Int)) then
                  (idx a1.Identity s27.2).bind fun y32 =>
                  chk (s27.1.length + (([IntKind.i64.wrap ((IntKind.i64.wrap (y26 * v1)) + y32)] : List Int).length) ≤ lim) (
                    next28 (s27.1 ++ ([IntKind.i64.wrap ((IntKind.i64.wrap (y26 * v1)) + y32)] : List Int), IntKind.i64.wrap (s27.2 + 1)))
                else
                  next22 (s27.1, IntKind.i64.wrap (s21.2 + 1))) fuel (s21.1, 0)
            else
              (M.impl_Category_table (⟨IntKind.i64.wrap (a0.Objects * a1.Objects), s5.1, s5.2.1, s21.1, []⟩ : XCategory) (fun (x0 : Int) (x1 : Int) => M.impl_product_1 x0 x1 a0 v1 a1)).bind fun v34 =>
              some (v34, true)) fuel (([] : List Int), 0)) fuel (([] : List Int), ([] : List Int), 0)

def M.impl_projection (a0 : XCategory) (a1 : XCategory) (a2 : XCategory) (a3 : Int → Int → Option Int) : Option (XFunctor × Int) :=
  (M.impl_areCategories ([a0, a1] : List XCategory)).bind fun v1 =>
  if v1 then
    (M.impl_product a0 a1).bind fun v3 =>
    if v3.2 then
      (M.impl_numbers v3.1.Objects).bind fun v5 =>
      (M.impl_Category_arrows v3.1).bind fun v6 =>
      (M.impl_numbers v6).bind fun v7 =>
      iter (fun (s8 : (List Int) × Int) next9 =>
        if decide (s8.2 < (v5.length : Int)) then
          (a3 s8.2 a1.Objects).bind fun v13 =>
          (idx s8.1 s8.2).bind fun _ =>
          next9 (s8.1.set s8.2.toNat v13, IntKind.i64.wrap (s8.2 + 1))
        else
          iter (fun (s15 : (List Int) × Int) next16 =>
            if decide (s15.2 < (v7.length : Int)) then
              (M.impl_Category_arrows a1).bind fun v20 =>
              (a3 s15.2 v20).bind fun v21 =>
              (idx s15.1 s15.2).bind fun _ =>
              next16 (s15.1.set s15.2.toNat v21, IntKind.i64.wrap (s15.2 + 1))
            else
              (M.impl_functor v3.1 a2 s8.1 s15.1).bind fun v23 =>
              some (v23, 0)) fuel (v7, 0)) fuel (v5, 0)
    else
      some ((⟨(⟨0, [], [], [], []⟩ : XCategory), (⟨0, [], [], [], []⟩ : XCategory), [], []⟩ : XFunctor), 3)
  else
    some ((⟨(⟨0, [], [], [], []⟩ : XCategory), (⟨0, [], [], [], []⟩ : XCategory), [], []⟩ : XFunctor), 1)

def M.impl_FirstProjection_1 (a0 : Int) (a1 : Int) : Option Int :=
  chk (a1 ≠ 0) (
    some (IntKind.i64.wrap (a0.tdiv a1)))

def M.impl_FirstProjection (a0 : XCategory) (a1 : XCategory) : Option (XFunctor × Int) :=
  (M.impl_projection a0 a1 a0 (fun (x0 : Int) (x1 : Int) => M.impl_FirstProjection_1 x0 x1)).bind fun v1 =>
  some (v1.1, v1.2)

def M.laws_FnExactFirstProjection (a0 : XCategory) (a1 : XCategory) : Option Bool :=
  (M.laws_szCategory a0 1048576).bind fun v1 =>
  if decide (v1 < 0) then
    some true
  else
    (M.laws_szCategory a1 v1).bind fun v3 =>
    if decide (v3 < 0) then
      some true
    else
      (M.laws_toCategory a0).bind fun v5 =>
      (M.laws_toCategory a1).bind fun v6 =>
      (M.spec_FirstProjection v5 v6).bind fun v7 =>
      (M.impl_FirstProjection v5 v6).bind fun v8 =>
      (M.laws_eqFunctor v8.1 v7.1).bind fun v9 =>
      if v9 then
        if v8.2 != v7.2 then
          some false
        else
          (M.laws_eqCategory v5 v5).bind fun v12 =>
          if v12 then
            (M.laws_eqCategory v6 v6).bind fun v14 =>
            if v14 then
              (M.laws_markCategory v5 1).bind fun v16 =>
              (M.laws_markCategory v6 v16.1).bind fun v17 =>
              if decide (v17.1 < 0) then
                some false
              else
                (M.laws_markFunctor v8.1 1).bind fun v19 =>
                (M.laws_heldFunctor v19.2 1).bind fun v20 =>
                if decide (v20 < 0) then
                  some false
                else
                  if v20 != v19.1 then
                    some false
                  else
                    some true
            else
              some false
          else
            some false
      else
        some false

end Go.Gx
