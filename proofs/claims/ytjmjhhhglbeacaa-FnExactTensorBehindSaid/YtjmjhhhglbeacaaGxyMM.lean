/- Models of the functions. Printed by wip/gen. -/
import Derived.Test.YtjmjhhhglbeacaaGxwOM
import Derived.Test.YtjmjhhhglbeacaaGxyNM
import Derived.Test.YtjmjhhhglbeacaaGxE1
namespace Go.Gx

structure XMonoidal where
  On : XCategory
  Unit : Int
  Objects : List (List Int)
  Arrows : List (List Int)
def eXMonoidal : Enc XMonoidal := (eA (eC eXCategory XMonoidal.On) (eA (eC eI XMonoidal.Unit) (eA (eC (eS (eS eI)) XMonoidal.Objects) (eC (eS (eS eI)) XMonoidal.Arrows))))
def R.XMonoidal (x : XMonoidal) : Prop := (R.XCategory x.On) ∧ (I64 x.Unit) ∧ (AllL (AllL I64) x.Objects) ∧ (AllL (AllL I64) x.Arrows)
def M.laws_szMonoidal (a0 : XMonoidal) (a1 : Int) : Option Int :=
  (M.laws_szCategory a0.On a1).bind fun v1 =>
  if decide (v1 < 0) then
    some (-1)
  else
    (M.laws_szInt64SS a0.Objects v1).bind fun v3 =>
    if decide (v3 < 0) then
      some (-1)
    else
      (M.laws_szInt64SS a0.Arrows v3).bind fun v5 =>
      if decide (v5 < 0) then
        some (-1)
      else
        some v5

def M.laws_toMonoidal (a0 : XMonoidal) : Option XMonoidal :=
  (M.laws_toCategory a0.On).bind fun v1 =>
  (M.laws_toInt64SS a0.Objects).bind fun v2 =>
  (M.laws_toInt64SS a0.Arrows).bind fun v3 =>
  some (⟨v1, a0.Unit, v2, v3⟩ : XMonoidal)

def M.spec_l03Square (a0 : List (List Int)) (a1 : Int) : Option Bool :=
  iter (fun (s1 : Int) next2 =>
    if decide (s1 < (a0.length : Int)) then
      (idx a0 s1).bind fun y6 =>
      if (y6.length : Int) != (a0.length : Int) then
        some false
      else
        (M.spec_l01Map a1 y6).bind fun v8 =>
        if v8 then
          next2 (IntKind.i64.wrap (s1 + 1))
        else
          some false
    else
      some true) fuel 0

def M.spec_l35Table (a0 : List (List Int)) (a1 : Int) (a2 : Int) : Option Bool :=
  if (a0.length : Int) == a1 then
    (M.spec_l03Square a0 a2).bind fun v2 =>
    some v2
  else
    some false

def M.spec_l35Ends (a0 : XMonoidal) : Option Bool :=
  iter (fun (s1 : Int) next2 =>
    if decide (s1 < (a0.On.From.length : Int)) then
      iter (fun (s6 : Int) next7 =>
        if decide (s6 < (a0.On.From.length : Int)) then
          (idx a0.Arrows s1).bind fun y11 =>
          (idx y11 s6).bind fun y12 =>
          (idx a0.On.From y12).bind fun y13 =>
          (idx a0.On.From s1).bind fun y14 =>
          (idx a0.Objects y14).bind fun y15 =>
          (idx a0.On.From s6).bind fun y16 =>
          (idx y15 y16).bind fun y17 =>
          if y13 != y17 then
            some false
          else
            (idx a0.On.To y12).bind fun y19 =>
            (idx a0.On.To s1).bind fun y20 =>
            (idx a0.Objects y20).bind fun y21 =>
            (idx a0.On.To s6).bind fun y22 =>
            (idx y21 y22).bind fun y23 =>
            if y19 != y23 then
              some false
            else
              next7 (IntKind.i64.wrap (s6 + 1))
        else
          next2 (IntKind.i64.wrap (s1 + 1))) fuel 0
    else
      some true) fuel 0

def M.spec_l35Whole (a0 : List (List Int)) (a1 : Int) : Option Bool :=
  iter (fun (s1 : Int) next2 =>
    if decide (s1 < (a0.length : Int)) then
      (idx a0 a1).bind fun y6 =>
      (idx y6 s1).bind fun y7 =>
      if y7 != s1 then
        some false
      else
        (idx a0 s1).bind fun y9 =>
        (idx y9 a1).bind fun y10 =>
        if y10 != s1 then
          some false
        else
          iter (fun (s12 : Int) next13 =>
            if decide (s12 < (a0.length : Int)) then
              iter (fun (s17 : Int) next18 =>
                if decide (s17 < (a0.length : Int)) then
                  (idx y9 s12).bind fun y22 =>
                  (idx a0 y22).bind fun y23 =>
                  (idx y23 s17).bind fun y24 =>
                  (idx a0 s12).bind fun y25 =>
                  (idx y25 s17).bind fun y26 =>
                  (idx y9 y26).bind fun y27 =>
                  if y24 != y27 then
                    some false
                  else
                    next18 (IntKind.i64.wrap (s17 + 1))
                else
                  next13 (IntKind.i64.wrap (s12 + 1))) fuel 0
            else
              next2 (IntKind.i64.wrap (s1 + 1))) fuel 0
    else
      some true) fuel 0

def M.spec_l35Is (a0 : XMonoidal) : Option Bool :=
  (M.spec_l02Is a0.On).bind fun v1 =>
  if v1 then
    (M.spec_l02Object a0.On a0.Unit).bind fun v3 =>
    if v3 then
      (M.spec_l35Table a0.Objects a0.On.Objects a0.On.Objects).bind fun v5 =>
      if v5 then
        (M.spec_l35Table a0.Arrows (a0.On.From.length : Int) (a0.On.From.length : Int)).bind fun v7 =>
        if v7 then
          (M.spec_l35Ends a0).bind fun v9 =>
          if v9 then
            (M.spec_l35Whole a0.Objects a0.Unit).bind fun v11 =>
            if v11 then
              (idx a0.On.Identity a0.Unit).bind fun y13 =>
              (M.spec_l35Whole a0.Arrows y13).bind fun v14 =>
              if v14 then
                iter (fun (s16 : Int) next17 =>
                  if decide (s16 < a0.On.Objects) then
                    iter (fun (s21 : Int) next22 =>
                      if decide (s21 < a0.On.Objects) then
                        (idx a0.On.Identity s16).bind fun y26 =>
                        (idx a0.Arrows y26).bind fun y27 =>
                        (idx a0.On.Identity s21).bind fun y28 =>
                        (idx y27 y28).bind fun y29 =>
                        (idx a0.Objects s16).bind fun y30 =>
                        (idx y30 s21).bind fun y31 =>
                        (idx a0.On.Identity y31).bind fun y32 =>
                        if y29 != y32 then
                          some false
                        else
                          next22 (IntKind.i64.wrap (s21 + 1))
                      else
                        next17 (IntKind.i64.wrap (s16 + 1))) fuel 0
                  else
                    iter (fun (s34 : Int) next35 =>
                      if decide (s34 < (a0.On.From.length : Int)) then
                        iter (fun (s39 : Int) next40 =>
                          if decide (s39 < (a0.On.From.length : Int)) then
                            (idx a0.On.Composites s34).bind fun y44 =>
                            (idx y44 s39).bind fun y45 =>
                            if decide (y45 < 0) then
                              next40 (IntKind.i64.wrap (s39 + 1))
                            else
                              iter (fun (s47 : Int) next48 =>
                                if decide (s47 < (a0.On.From.length : Int)) then
                                  iter (fun (s52 : Int) next53 =>
                                    if decide (s52 < (a0.On.From.length : Int)) then
                                      (idx a0.On.Composites s47).bind fun y57 =>
                                      (idx y57 s52).bind fun y58 =>
                                      if decide (y58 ≥ 0) then
                                        (idx a0.Arrows y45).bind fun y60 =>
                                        (idx y60 y58).bind fun y61 =>
                                        (idx a0.Arrows s34).bind fun y62 =>
                                        (idx y62 s47).bind fun y63 =>
                                        (idx a0.On.Composites y63).bind fun y64 =>
                                        (idx a0.Arrows s39).bind fun y65 =>
                                        (idx y65 s52).bind fun y66 =>
                                        (idx y64 y66).bind fun y67 =>
                                        if y61 != y67 then
                                          some false
                                        else
                                          next53 (IntKind.i64.wrap (s52 + 1))
                                      else
                                        next53 (IntKind.i64.wrap (s52 + 1))
                                    else
                                      next48 (IntKind.i64.wrap (s47 + 1))) fuel 0
                                else
                                  next40 (IntKind.i64.wrap (s39 + 1))) fuel 0
                          else
                            next35 (IntKind.i64.wrap (s34 + 1))) fuel 0
                      else
                        some true) fuel 0) fuel 0
              else
                some false
            else
              some false
          else
            some false
        else
          some false
      else
        some false
    else
      some false
  else
    some false

def M.spec_l35Behind (a0 : XMonoidal) (a1 : Int) : Option XFunctor :=
  iter (fun (s1 : (List Int) × Int) next2 =>
    if decide (s1.2 < (a0.Objects.length : Int)) then
      (idx a0.Objects s1.2).bind fun y6 =>
      (idx y6 a1).bind fun y7 =>
      chk (s1.1.length + (([y7] : List Int).length) ≤ lim) (
        next2 (s1.1 ++ ([y7] : List Int), IntKind.i64.wrap (s1.2 + 1)))
    else
      iter (fun (s9 : (List Int) × Int) next10 =>
        if decide (s9.2 < (a0.Arrows.length : Int)) then
          (idx a0.Arrows s9.2).bind fun y14 =>
          (idx a0.On.Identity a1).bind fun y15 =>
          (idx y14 y15).bind fun y16 =>
          chk (s9.1.length + (([y16] : List Int).length) ≤ lim) (
            next10 (s9.1 ++ ([y16] : List Int), IntKind.i64.wrap (s9.2 + 1)))
        else
          (M.spec_l06Make a0.On a0.On s1.1 s9.1).bind fun v18 =>
          some v18) fuel (([] : List Int), 0)) fuel (([] : List Int), 0)

def M.impl_isTable (a0 : List (List Int)) (a1 : Int) : Option Bool :=
  if (a0.length : Int) != a1 then
    some false
  else
    iter (fun (s2 : Int) next3 =>
      if decide (s2 < (a0.length : Int)) then
        (idx a0 s2).bind fun y7 =>
        if (y7.length : Int) != a1 then
          some false
        else
          (M.impl_within y7 a1).bind fun v9 =>
          if v9 then
            next3 (IntKind.i64.wrap (s2 + 1))
          else
            some false
      else
        some true) fuel 0

def M.impl_Category_isIdentity (a0 : XCategory) (a1 : Int) : Option Bool :=
  (idx a0.From a1).bind fun y1 =>
  (idx a0.Identity y1).bind fun y2 =>
  some (y2 == a1)

def M.impl_isAssociative (a0 : List (List Int)) (a1 : Int) : Option Bool :=
  iter (fun (s1 : Int) next2 =>
    if decide (s1 < (a0.length : Int)) then
      (idx a0 s1).bind fun y6 =>
      (idx y6 a1).bind fun y7 =>
      if y7 != s1 then
        some false
      else
        (idx a0 a1).bind fun y9 =>
        (idx y9 s1).bind fun y10 =>
        if y10 != s1 then
          some false
        else
          iter (fun (s12 : Int) next13 =>
            if decide (s12 < (a0.length : Int)) then
              iter (fun (s17 : Int) next18 =>
                if decide (s17 < (a0.length : Int)) then
                  (idx y6 s12).bind fun y22 =>
                  (idx a0 y22).bind fun y23 =>
                  (idx y23 s17).bind fun y24 =>
                  (idx a0 s12).bind fun y25 =>
                  (idx y25 s17).bind fun y26 =>
                  (idx y6 y26).bind fun y27 =>
                  if y24 != y27 then
                    some false
                  else
                    next18 (IntKind.i64.wrap (s17 + 1))
                else
                  next13 (IntKind.i64.wrap (s12 + 1))) fuel 0
            else
              next2 (IntKind.i64.wrap (s1 + 1))) fuel 0
    else
      some true) fuel 0

def M.impl_Monoidal_interchanges (a0 : XMonoidal) : Option Bool :=
  iter (fun (s1 : Int) next2 =>
    if decide (s1 < (a0.On.From.length : Int)) then
      (idx a0.On.To s1).bind fun y6 =>
      (M.impl_Category_outOf a0.On y6).bind fun v7 =>
      iter (fun (s8 : Int) next9 =>
        if decide (s8 < (v7.length : Int)) then
          (idx v7 s8).bind fun y13 =>
          iter (fun (s14 : Int) next15 =>
            if decide (s14 < (a0.On.From.length : Int)) then
              (idx a0.On.To s14).bind fun y19 =>
              (M.impl_Category_outOf a0.On y19).bind fun v20 =>
              iter (fun (s21 : Int) next22 =>
                if decide (s21 < (v20.length : Int)) then
                  (idx v20 s21).bind fun y26 =>
                  (M.impl_Category_then a0.On s1 y13).bind fun v27 =>
                  (idx a0.Arrows v27).bind fun y28 =>
                  (M.impl_Category_then a0.On s14 y26).bind fun v29 =>
                  (idx y28 v29).bind fun y30 =>
                  (idx a0.Arrows s1).bind fun y31 =>
                  (idx y31 s14).bind fun y32 =>
                  (idx a0.Arrows y13).bind fun y33 =>
                  (idx y33 y26).bind fun y34 =>
                  (M.impl_Category_then a0.On y32 y34).bind fun v35 =>
                  if y30 != v35 then
                    some false
                  else
                    next22 (IntKind.i64.wrap (s21 + 1))
                else
                  next15 (IntKind.i64.wrap (s14 + 1))) fuel 0
            else
              next9 (IntKind.i64.wrap (s8 + 1))) fuel 0
        else
          next2 (IntKind.i64.wrap (s1 + 1))) fuel 0
    else
      some true) fuel 0

def M.impl_Monoidal_isMonoidal (a0 : XMonoidal) : Option Bool :=
  (M.impl_Category_isCategory a0.On).bind fun v1 =>
  if v1 then
    (M.impl_inRange a0.Unit 0 (IntKind.i64.wrap (a0.On.Objects - 1))).bind fun v3 =>
    if v3 then
      (M.impl_isTable a0.Objects a0.On.Objects).bind fun v5 =>
      if v5 then
        (M.impl_Category_arrows a0.On).bind fun v7 =>
        (M.impl_isTable a0.Arrows v7).bind fun v8 =>
        if v8 then
          iter (fun (s10 : Int) next11 =>
            if decide (s10 < (a0.Arrows.length : Int)) then
              (idx a0.Arrows s10).bind fun y15 =>
              iter (fun (s16 : Int) next17 =>
                if decide (s16 < (y15.length : Int)) then
                  (idx y15 s16).bind fun y21 =>
                  (M.impl_Category_ends a0.On y21).bind fun v22 =>
                  (idx a0.On.From s10).bind fun y23 =>
                  (idx a0.Objects y23).bind fun y24 =>
                  (idx a0.On.From s16).bind fun y25 =>
                  (idx y24 y25).bind fun y26 =>
                  (idx a0.On.To s10).bind fun y27 =>
                  (idx a0.Objects y27).bind fun y28 =>
                  (idx a0.On.To s16).bind fun y29 =>
                  (idx y28 y29).bind fun y30 =>
                  if ((v22.from_ == y26) && (v22.to_ == y30)) == false then
                    some false
                  else
                    (M.impl_Category_isIdentity a0.On s10).bind fun v32 =>
                    if v32 then
                      (M.impl_Category_isIdentity a0.On s16).bind fun v34 =>
                      if v34 then
                        (M.impl_Category_isIdentity a0.On y21).bind fun v36 =>
                        if v36 then
                          next17 (IntKind.i64.wrap (s16 + 1))
                        else
                          some false
                      else
                        next17 (IntKind.i64.wrap (s16 + 1))
                    else
                      next17 (IntKind.i64.wrap (s16 + 1))
                else
                  next11 (IntKind.i64.wrap (s10 + 1))) fuel 0
            else
              (M.impl_isAssociative a0.Objects a0.Unit).bind fun v38 =>
              if v38 then
                (idx a0.On.Identity a0.Unit).bind fun y40 =>
                (M.impl_isAssociative a0.Arrows y40).bind fun v41 =>
                if v41 then
                  (M.impl_Monoidal_interchanges a0).bind fun v43 =>
                  some v43
                else
                  some false
              else
                some false) fuel 0
        else
          some false
      else
        some false
    else
      some false
  else
    some false

def M.impl_column (a0 : List (List Int)) (a1 : Int) : Option (List Int) :=
  iter (fun (s1 : (List Int) × Int) next2 =>
    if decide (s1.2 < (a0.length : Int)) then
      (idx a0 s1.2).bind fun y6 =>
      (idx y6 a1).bind fun y7 =>
      chk (s1.1.length + (([y7] : List Int).length) ≤ lim) (
        next2 (s1.1 ++ ([y7] : List Int), IntKind.i64.wrap (s1.2 + 1)))
    else
      some s1.1) fuel (([] : List Int), 0)

def M.impl_Monoidal_behind (a0 : XMonoidal) (a1 : Int) : Option XFunctor :=
  (M.impl_column a0.Objects a1).bind fun v1 =>
  (idx a0.On.Identity a1).bind fun y2 =>
  (M.impl_column a0.Arrows y2).bind fun v3 =>
  (M.impl_functor a0.On a0.On v1 v3).bind fun v4 =>
  some v4

def M.laws_eqMonoidal (a0 : XMonoidal) (a1 : XMonoidal) : Option Bool :=
  (M.laws_eqCategory a0.On a1.On).bind fun v1 =>
  if v1 then
    if a0.Unit != a1.Unit then
      some false
    else
      (M.laws_eqInt64SS a0.Objects a1.Objects).bind fun v4 =>
      if v4 then
        (M.laws_eqInt64SS a0.Arrows a1.Arrows).bind fun v6 =>
        if v6 then
          some true
        else
          some false
      else
        some false
  else
    some false

end Go.Gx
