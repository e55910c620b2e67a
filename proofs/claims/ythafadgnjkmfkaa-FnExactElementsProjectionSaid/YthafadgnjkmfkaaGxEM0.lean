/- Laid together: part 0. -/
import Derived.Test.YthafadgnjkmfkaaGxE2
/- Models of the functions. Printed by wip/gen. -/
namespace Go.Gx

structure XCategory where
  Objects : Int
  From : List Int
  To : List Int
  Identity : List Int
  Composites : List (List Int)
def eXCategory : Enc XCategory := (eA (eC eI XCategory.Objects) (eA (eC (eS eI) XCategory.From) (eA (eC (eS eI) XCategory.To) (eA (eC (eS eI) XCategory.Identity) (eC (eS (eS eI)) XCategory.Composites)))))
def R.XCategory (x : XCategory) : Prop := (I64 x.Objects) ∧ (AllL I64 x.From) ∧ (AllL I64 x.To) ∧ (AllL I64 x.Identity) ∧ (AllL (AllL I64) x.Composites)
theorem eXCategory_nb : EncNb eXCategory := (eA_nb (eC_nb eI_nb _) (eA_nb (eC_nb (eS_nb eI_nb) _) (eA_nb (eC_nb (eS_nb eI_nb) _) (eA_nb (eC_nb (eS_nb eI_nb) _) (eC_nb (eS_nb (eS_nb eI_nb)) _)))))

structure XFunctor where
  Source : XCategory
  Target : XCategory
  Objects : List Int
  Arrows : List Int
def eXFunctor : Enc XFunctor := (eA (eC eXCategory XFunctor.Source) (eA (eC eXCategory XFunctor.Target) (eA (eC (eS eI) XFunctor.Objects) (eC (eS eI) XFunctor.Arrows))))
def R.XFunctor (x : XFunctor) : Prop := (R.XCategory x.Source) ∧ (R.XCategory x.Target) ∧ (AllL I64 x.Objects) ∧ (AllL I64 x.Arrows)
theorem eXFunctor_nb : EncNb eXFunctor := (eA_nb (eC_nb eXCategory_nb _) (eA_nb (eC_nb eXCategory_nb _) (eA_nb (eC_nb (eS_nb eI_nb) _) (eC_nb (eS_nb eI_nb) _))))

structure Xends where
  from_ : Int
  to_ : Int
def eXends : Enc Xends := (eA (eC eI Xends.from_) (eC eI Xends.to_))
def R.Xends (x : Xends) : Prop := (I64 x.from_) ∧ (I64 x.to_)
def M.laws_szInt64S (a0 : List Int) (a1 : Int) : Option Int :=
  if decide ((IntKind.i64.wrap (a1 - (a0.length : Int))) < 0) then
    some (-1)
  else
    some (IntKind.i64.wrap (a1 - (a0.length : Int)))

def M.laws_szInt64SS (a0 : List (List Int)) (a1 : Int) : Option Int :=
  if decide ((IntKind.i64.wrap (a1 - (a0.length : Int))) < 0) then
    some (-1)
  else
    iter (fun (s2 : Int × Int) next3 =>
      if decide (s2.2 < (a0.length : Int)) then
        (idx a0 s2.2).bind fun y7 =>
        (M.laws_szInt64S y7 s2.1).bind fun v8 =>
        if decide (v8 < 0) then
          some (-1)
        else
          next3 (v8, IntKind.i64.wrap (s2.2 + 1))
      else
        some s2.1) fuel (IntKind.i64.wrap (a1 - (a0.length : Int)), 0)

def M.laws_szCategory (a0 : XCategory) (a1 : Int) : Option Int :=
  (M.laws_szInt64S a0.From a1).bind fun v1 =>
  if decide (v1 < 0) then
    some (-1)
  else
    (M.laws_szInt64S a0.To v1).bind fun v3 =>
    if decide (v3 < 0) then
      some (-1)
    else
      (M.laws_szInt64S a0.Identity v3).bind fun v5 =>
      if decide (v5 < 0) then
        some (-1)
      else
        (M.laws_szInt64SS a0.Composites v5).bind fun v7 =>
        if decide (v7 < 0) then
          some (-1)
        else
          some v7

def M.spec_l01In (a0 : Int) (a1 : Int) (a2 : Int) : Option Bool :=
  if decide (a0 ≥ a1) then
    some (decide (a0 ≤ a2))
  else
    some false

def M.spec_l01Map (a0 : Int) (a1 : List Int) : Option Bool :=
  iter (fun (s1 : Int) next2 =>
    if decide (s1 < (a1.length : Int)) then
      (idx a1 s1).bind fun y6 =>
      if decide (y6 < 0) then
        some false
      else
        if decide (y6 ≥ a0) then
          some false
        else
          next2 (IntKind.i64.wrap (s1 + 1))
    else
      some true) fuel 0

def M.spec_l02Ends (a0 : List Int) (a1 : Int) (a2 : Int) : Option Bool :=
  if (a0.length : Int) == a1 then
    (M.spec_l01Map a2 a0).bind fun v2 =>
    some v2
  else
    some false

def M.spec_IsShape (a0 : XCategory) : Option Bool :=
  (M.spec_l01In a0.Objects 0 8).bind fun v1 =>
  if v1 then
    if decide ((a0.From.length : Int) > 40) then
      some false
    else
      (M.spec_l02Ends a0.From (a0.From.length : Int) a0.Objects).bind fun v4 =>
      if v4 then
        (M.spec_l02Ends a0.To (a0.From.length : Int) a0.Objects).bind fun v6 =>
        if v6 then
          if (a0.Composites.length : Int) != (a0.From.length : Int) then
            some false
          else
            if (a0.Identity.length : Int) != a0.Objects then
              some false
            else
              (M.spec_l01Map (a0.From.length : Int) a0.Identity).bind fun v10 =>
              if v10 then
                iter (fun (s12 : Int) next13 =>
                  if decide (s12 < a0.Objects) then
                    (idx a0.Identity s12).bind fun y17 =>
                    (idx a0.From y17).bind fun y18 =>
                    if y18 != s12 then
                      some false
                    else
                      (idx a0.To y17).bind fun y20 =>
                      if y20 != s12 then
                        some false
                      else
                        next13 (IntKind.i64.wrap (s12 + 1))
                  else
                    iter (fun (s22 : Int) next23 =>
                      if decide (s22 < (a0.From.length : Int)) then
                        (idx a0.Composites s22).bind fun y27 =>
                        if (y27.length : Int) != (a0.From.length : Int) then
                          some false
                        else
                          iter (fun (s29 : Int) next30 =>
                            if decide (s29 < (a0.From.length : Int)) then
                              (idx y27 s29).bind fun y34 =>
                              (idx a0.To s22).bind fun y35 =>
                              (idx a0.From s29).bind fun y36 =>
                              if y35 != y36 then
                                if y34 != (-1) then
                                  some false
                                else
                                  next30 (IntKind.i64.wrap (s29 + 1))
                              else
                                if decide (y34 < 0) then
                                  some false
                                else
                                  if decide (y34 ≥ (a0.From.length : Int)) then
                                    some false
                                  else
                                    (idx a0.From y34).bind fun y41 =>
                                    (idx a0.From s22).bind fun y42 =>
                                    if y41 != y42 then
                                      some false
                                    else
                                      (idx a0.To y34).bind fun y44 =>
                                      (idx a0.To s29).bind fun y45 =>
                                      if y44 != y45 then
                                        some false
                                      else
                                        next30 (IntKind.i64.wrap (s29 + 1))
                            else
                              next23 (IntKind.i64.wrap (s22 + 1))) fuel 0
                      else
                        some true) fuel 0) fuel 0
              else
                some false
        else
          some false
      else
        some false
  else
    some false

def M.spec_l02Fault (a0 : XCategory) : Option (Int × Int × Int × Int) :=
  iter (fun (s1 : Int) next2 =>
    if decide (s1 < (a0.From.length : Int)) then
      (idx a0.From s1).bind fun y6 =>
      (idx a0.Identity y6).bind fun y7 =>
      (idx a0.Composites y7).bind fun y8 =>
      (idx y8 s1).bind fun y9 =>
      if y9 != s1 then
        some (1, s1, 0, 0)
      else
        (idx a0.Composites s1).bind fun y11 =>
        (idx a0.To s1).bind fun y12 =>
        (idx a0.Identity y12).bind fun y13 =>
        (idx y11 y13).bind fun y14 =>
        if y14 != s1 then
          some (1, s1, 0, 0)
        else
          next2 (IntKind.i64.wrap (s1 + 1))
    else
      iter (fun (s16 : Int) next17 =>
        if decide (s16 < (a0.From.length : Int)) then
          iter (fun (s21 : Int) next22 =>
            if decide (s21 < (a0.From.length : Int)) then
              (idx a0.To s16).bind fun y26 =>
              (idx a0.From s21).bind fun y27 =>
              if y26 != y27 then
                next22 (IntKind.i64.wrap (s21 + 1))
              else
                iter (fun (s29 : Int) next30 =>
                  if decide (s29 < (a0.From.length : Int)) then
                    (idx a0.To s21).bind fun y34 =>
                    (idx a0.From s29).bind fun y35 =>
                    if y34 == y35 then
                      (idx a0.Composites s16).bind fun y37 =>
                      (idx y37 s21).bind fun y38 =>
                      (idx a0.Composites y38).bind fun y39 =>
                      (idx y39 s29).bind fun y40 =>
                      (idx a0.Composites s21).bind fun y41 =>
                      (idx y41 s29).bind fun y42 =>
                      (idx y37 y42).bind fun y43 =>
                      if y40 != y43 then
                        some (2, s16, s21, s29)
                      else
                        next30 (IntKind.i64.wrap (s29 + 1))
                    else
                      next30 (IntKind.i64.wrap (s29 + 1))
                  else
                    next22 (IntKind.i64.wrap (s21 + 1))) fuel 0
            else
              next17 (IntKind.i64.wrap (s16 + 1))) fuel 0
        else
          some (0, 0, 0, 0)) fuel 0) fuel 0

def M.spec_l02Is (a0 : XCategory) : Option Bool :=
  (M.spec_IsShape a0).bind fun v1 =>
  if v1 then
    (M.spec_l02Fault a0).bind fun v3 =>
    some (v3.1 == 0)
  else
    some false

def M.spec_l01Own (a0 : List Int) : Option (List Int) :=
  chk (([] : List Int).length + a0.length ≤ lim) (
    some (([] : List Int) ++ a0))

def M.spec_l01Own2 (a0 : List (List Int)) : Option (List (List Int)) :=
  iter (fun (s1 : (List (List Int)) × Int) next2 =>
    if decide (s1.2 < (a0.length : Int)) then
      (idx a0 s1.2).bind fun y6 =>
      (M.spec_l01Own y6).bind fun v7 =>
      chk (s1.1.length + 1 ≤ lim) (
        next2 (s1.1 ++ [v7], IntKind.i64.wrap (s1.2 + 1)))
    else
      some s1.1) fuel (([] : List (List Int)), 0)

def M.spec_l02Own (a0 : XCategory) : Option XCategory :=
  (M.spec_l01Own a0.From).bind fun v1 =>
  (M.spec_l01Own a0.To).bind fun v2 =>
  (M.spec_l01Own a0.Identity).bind fun v3 =>
  (M.spec_l01Own2 a0.Composites).bind fun v4 =>
  some (⟨a0.Objects, v1, v2, v3, v4⟩ : XCategory)

def M.spec_l06Make (a0 : XCategory) (a1 : XCategory) (a2 : List Int) (a3 : List Int) : Option XFunctor :=
  (M.spec_l02Own a0).bind fun v1 =>
  (M.spec_l02Own a1).bind fun v2 =>
  (M.spec_l01Own a2).bind fun v3 =>
  (M.spec_l01Own a3).bind fun v4 =>
  some (⟨v1, v2, v3, v4⟩ : XFunctor)

def M.laws_toInt64S (a0 : List Int) : Option (List Int) :=
  chk ((0 : Int) ≤ (a0.length : Int) ∧ (a0.length : Int) ≤ (lim : Int)) (
    iter (fun (s2 : (List Int) × Int) next3 =>
      if decide (s2.2 < (a0.length : Int)) then
        (idx a0 s2.2).bind fun y7 =>
        (idx s2.1 s2.2).bind fun _ =>
        next3 (s2.1.set s2.2.toNat y7, IntKind.i64.wrap (s2.2 + 1))
      else
        some s2.1) fuel ((List.replicate (a0.length : Int).toNat (0 : Int)), 0))

def M.laws_toInt64SS (a0 : List (List Int)) : Option (List (List Int)) :=
  chk ((0 : Int) ≤ (a0.length : Int) ∧ (a0.length : Int) ≤ (lim : Int)) (
    iter (fun (s2 : (List (List Int)) × Int) next3 =>
      if decide (s2.2 < (a0.length : Int)) then
        (idx a0 s2.2).bind fun y7 =>
        (M.laws_toInt64S y7).bind fun v8 =>
        (idx s2.1 s2.2).bind fun _ =>
        next3 (s2.1.set s2.2.toNat v8, IntKind.i64.wrap (s2.2 + 1))
      else
        some s2.1) fuel ((List.replicate (a0.length : Int).toNat ([] : List Int)), 0))

def M.laws_toCategory (a0 : XCategory) : Option XCategory :=
  (M.laws_toInt64S a0.From).bind fun v1 =>
  (M.laws_toInt64S a0.To).bind fun v2 =>
  (M.laws_toInt64S a0.Identity).bind fun v3 =>
  (M.laws_toInt64SS a0.Composites).bind fun v4 =>
  some (⟨a0.Objects, v1, v2, v3, v4⟩ : XCategory)

def M.impl_Category_arrows (a0 : XCategory) : Option Int :=
  some (a0.From.length : Int)

def M.impl_inRange (a0 : Int) (a1 : Int) (a2 : Int) : Option Bool :=
  if decide (a0 ≥ a1) then
    some (decide (a0 ≤ a2))
  else
    some false

def M.impl_within (a0 : List Int) (a1 : Int) : Option Bool :=
  iter (fun (s1 : Int) next2 =>
    if decide (s1 < (a0.length : Int)) then
      (idx a0 s1).bind fun y6 =>
      (M.impl_inRange y6 0 (IntKind.i64.wrap (a1 - 1))).bind fun v7 =>
      if v7 then
        next2 (IntKind.i64.wrap (s1 + 1))
      else
        some false
    else
      some true) fuel 0

def M.impl_Category_ends (a0 : XCategory) (a1 : Int) : Option Xends :=
  (idx a0.From a1).bind fun y1 =>
  (idx a0.To a1).bind fun y2 =>
  some (⟨y1, y2⟩ : Xends)

def M.impl_Category_isShape (a0 : XCategory) : Option Bool :=
  (M.impl_Category_arrows a0).bind fun v1 =>
  (M.impl_inRange a0.Objects 0 8).bind fun v2 =>
  if v2 then
    if decide (v1 > 40) then
      some false
    else
      if (a0.To.length : Int) != v1 then
        some false
      else
        (M.impl_within a0.From a0.Objects).bind fun v6 =>
        if v6 then
          (M.impl_within a0.To a0.Objects).bind fun v8 =>
          if v8 then
            if (a0.Identity.length : Int) != a0.Objects then
              some false
            else
              (M.impl_within a0.Identity v1).bind fun v11 =>
              if v11 then
                if (a0.Composites.length : Int) != v1 then
                  some false
                else
                  iter (fun (s14 : Int) next15 =>
                    if decide (s14 < (a0.Identity.length : Int)) then
                      (idx a0.Identity s14).bind fun y19 =>
                      (M.impl_Category_ends a0 y19).bind fun v20 =>
                      if ((v20.from_ == s14) && (v20.to_ == s14)) == false then
                        some false
                      else
                        next15 (IntKind.i64.wrap (s14 + 1))
                    else
                      iter (fun (s22 : Int) next23 =>
                        if decide (s22 < (a0.Composites.length : Int)) then
                          (idx a0.Composites s22).bind fun y27 =>
                          if (y27.length : Int) != v1 then
                            some false
                          else
                            iter (fun (s29 : Int) next30 =>
                              if decide (s29 < (y27.length : Int)) then
                                (idx y27 s29).bind fun y34 =>
                                (idx a0.To s22).bind fun y35 =>
                                (idx a0.From s29).bind fun y36 =>
                                if y35 != y36 then
                                  if y34 != (-1) then
                                    some false
                                  else
                                    next30 (IntKind.i64.wrap (s29 + 1))
                                else
                                  (M.impl_inRange y34 0 (IntKind.i64.wrap (v1 - 1))).bind fun v39 =>
                                  if v39 then
                                    (M.impl_Category_ends a0 y34).bind fun v41 =>
                                    (idx a0.From s22).bind fun y42 =>
                                    (idx a0.To s29).bind fun y43 =>
                                    if ((v41.from_ == y42) && (v41.to_ == y43)) == false then
                                      some false
                                    else
                                      next30 (IntKind.i64.wrap (s29 + 1))
                                  else
                                    some false
                              else
                                next23 (IntKind.i64.wrap (s22 + 1))) fuel 0
                        else
                          some true) fuel 0) fuel 0
              else
                some false
          else
            some false
        else
          some false
  else
    some false

def M.impl_Category_then (a0 : XCategory) (a1 : Int) (a2 : Int) : Option Int :=
  (idx a0.Composites a1).bind fun y1 =>
  (idx y1 a2).bind fun y2 =>
  some y2

def M.impl_Category_fault (a0 : XCategory) : Option (Int × Int × Int × Int) :=
  (M.impl_Category_arrows a0).bind fun v1 =>
  iter (fun (s2 : Int) next3 =>
    if decide (s2 < v1) then
      (idx a0.From s2).bind fun y7 =>
      (idx a0.Identity y7).bind fun y8 =>
      (M.impl_Category_then a0 y8 s2).bind fun v9 =>
      if v9 != s2 then
        some (1, s2, 0, 0)
      else
        (idx a0.To s2).bind fun y11 =>
        (idx a0.Identity y11).bind fun y12 =>
        (M.impl_Category_then a0 s2 y12).bind fun v13 =>
        if v13 != s2 then
          some (1, s2, 0, 0)
        else
          next3 (IntKind.i64.wrap (s2 + 1))
    else
      iter (fun (s15 : Int) next16 =>
        if decide (s15 < v1) then
          iter (fun (s20 : Int) next21 =>
            if decide (s20 < v1) then
              (M.impl_Category_then a0 s15 s20).bind fun v25 =>
              if decide (v25 < 0) then
                next21 (IntKind.i64.wrap (s20 + 1))
              else
                iter (fun (s27 : Int) next28 =>
                  if decide (s27 < v1) then
                    (M.impl_Category_then a0 s20 s27).bind fun v32 =>
                    if decide (v32 ≥ 0) then
                      (M.impl_Category_then a0 v25 s27).bind fun v34 =>
                      (M.impl_Category_then a0 s15 v32).bind fun v35 =>
                      if v34 != v35 then
                        some (2, s15, s20, s27)
                      else
                        next28 (IntKind.i64.wrap (s27 + 1))
                    else
                      next28 (IntKind.i64.wrap (s27 + 1))
                  else
                    next21 (IntKind.i64.wrap (s20 + 1))) fuel 0
            else
              next16 (IntKind.i64.wrap (s15 + 1))) fuel 0
        else
          some (0, 0, 0, 0)) fuel 0) fuel 0

def M.impl_Category_isCategory (a0 : XCategory) : Option Bool :=
  (M.impl_Category_isShape a0).bind fun v1 =>
  if v1 then
    (M.impl_Category_fault a0).bind fun v3 =>
    some (v3.1 == 0)
  else
    some false

def M.impl_clone (a0 : List Int) : Option (List Int) :=
  chk (([] : List Int).length + a0.length ≤ lim) (
    some (([] : List Int) ++ a0))

def M.impl_clones (a0 : List (List Int)) : Option (List (List Int)) :=
  chk ((0 : Int) ≤ (a0.length : Int) ∧ (a0.length : Int) ≤ (lim : Int)) (
    iter (fun (s2 : (List (List Int)) × Int) next3 =>
      if decide (s2.2 < (a0.length : Int)) then
        (idx a0 s2.2).bind fun y7 =>
        (M.impl_clone y7).bind fun v8 =>
        chk (s2.1.length + 1 ≤ lim) (
          next3 (s2.1 ++ [v8], IntKind.i64.wrap (s2.2 + 1)))
      else
        some s2.1) fuel (([] : List (List Int)), 0))

def M.impl_Category_copy (a0 : XCategory) : Option XCategory :=
  (M.impl_clone a0.From).bind fun v1 =>
  (M.impl_clone a0.To).bind fun v2 =>
  (M.impl_clone a0.Identity).bind fun v3 =>
  (M.impl_clones a0.Composites).bind fun v4 =>
  some (⟨a0.Objects, v1, v2, v3, v4⟩ : XCategory)

def M.impl_functor (a0 : XCategory) (a1 : XCategory) (a2 : List Int) (a3 : List Int) : Option XFunctor :=
  (M.impl_Category_copy a0).bind fun v1 =>
  (M.impl_Category_copy a1).bind fun v2 =>
  (M.impl_clone a2).bind fun v3 =>
  (M.impl_clone a3).bind fun v4 =>
  some (⟨v1, v2, v3, v4⟩ : XFunctor)

def M.laws_eqInt64S (a0 : List Int) (a1 : List Int) : Option Bool :=
  if (a0.length : Int) != (a1.length : Int) then
    some false
  else
    iter (fun (s2 : Int) next3 =>
      if decide (s2 < (a0.length : Int)) then
        (idx a0 s2).bind fun y7 =>
        (idx a1 s2).bind fun y8 =>
        if y7 != y8 then
          some false
        else
          next3 (IntKind.i64.wrap (s2 + 1))
      else
        some true) fuel 0

def M.laws_eqInt64SS (a0 : List (List Int)) (a1 : List (List Int)) : Option Bool :=
  if (a0.length : Int) != (a1.length : Int) then
    some false
  else
    iter (fun (s2 : Int) next3 =>
      if decide (s2 < (a0.length : Int)) then
        (idx a0 s2).bind fun y7 =>
        (idx a1 s2).bind fun y8 =>
        (M.laws_eqInt64S y7 y8).bind fun v9 =>
        if v9 then
          next3 (IntKind.i64.wrap (s2 + 1))
        else
          some false
      else
        some true) fuel 0

def M.laws_eqCategory (a0 : XCategory) (a1 : XCategory) : Option Bool :=
  if a0.Objects != a1.Objects then
    some false
  else
    (M.laws_eqInt64S a0.From a1.From).bind fun v2 =>
    if v2 then
      (M.laws_eqInt64S a0.To a1.To).bind fun v4 =>
      if v4 then
        (M.laws_eqInt64S a0.Identity a1.Identity).bind fun v6 =>
        if v6 then
          (M.laws_eqInt64SS a0.Composites a1.Composites).bind fun v8 =>
          if v8 then
            some true
          else
            some false
        else
          some false
      else
        some false
    else
      some false

def M.laws_eqFunctor (a0 : XFunctor) (a1 : XFunctor) : Option Bool :=
  (M.laws_eqCategory a0.Source a1.Source).bind fun v1 =>
  if v1 then
    (M.laws_eqCategory a0.Target a1.Target).bind fun v3 =>
    if v3 then
      (M.laws_eqInt64S a0.Objects a1.Objects).bind fun v5 =>
      if v5 then
        (M.laws_eqInt64S a0.Arrows a1.Arrows).bind fun v7 =>
        if v7 then
          some true
        else
          some false
      else
        some false
    else
      some false
  else
    some false

def M.laws_markInt64S (a0 : List Int) (a1 : Int) : Option (Int × (List Int)) :=
  iter (fun (s1 : (List Int) × Int × Int) next2 =>
    if decide (s1.2.2 < (s1.1.length : Int)) then
      (idx s1.1 s1.2.2).bind fun _ =>
      next2 (s1.1.set s1.2.2.toNat s1.2.1, IntKind.i64.wrap (s1.2.1 + 1), IntKind.i64.wrap (s1.2.2 + 1))
    else
      some (s1.2.1, s1.1)) fuel (a0, a1, 0)

theorem M.len_markInt64S {a0 : List Int} {a1 : Int} {r : Int × (List Int)} (h : M.laws_markInt64S a0 a1 = some r) : a0.length = r.2.length := by
  unfold M.laws_markInt64S at h
  refine iter_pres (fun s => s.1.length = a0.length) (fun r => a0.length = r.2.length) ?_ _ _ _ rfl h
  intro s next r hs hn h
  try dsimp only at h
  split at h
  · obtain ⟨_, _, h⟩ := bind_some' h
    exact hn _ (by simpa using hs) h
  · obtain rfl := Option.some.inj h; exact hs.symm

def M.laws_markInt64SS (a0 : List (List Int)) (a1 : Int) : Option (Int × (List (List Int))) :=
  iter (fun (s1 : (List (List Int)) × Int × Int) next2 =>
    if decide (s1.2.2 < (s1.1.length : Int)) then
      (idx s1.1 s1.2.2).bind fun y6 =>
      (M.laws_markInt64S y6 s1.2.1).bind fun v7 =>
      next2 (s1.1.set s1.2.2.toNat v7.2, v7.1, IntKind.i64.wrap (s1.2.2 + 1))
    else
      some (s1.2.1, s1.1)) fuel (a0, a1, 0)

theorem M.len_markInt64SS {a0 : List (List Int)} {a1 : Int} {r : Int × (List (List Int))} (h : M.laws_markInt64SS a0 a1 = some r) : a0.length = r.2.length := by
  unfold M.laws_markInt64SS at h
  refine iter_pres (fun s => s.1.length = a0.length) (fun r => a0.length = r.2.length) ?_ _ _ _ rfl h
  intro s next r hs hn h
  try dsimp only at h
  split at h
  · obtain ⟨_, _, h⟩ := bind_some' h
    obtain ⟨_, _, h⟩ := bind_some' h
    exact hn _ (by simpa using hs) h
  · obtain rfl := Option.some.inj h; exact hs.symm

def M.laws_markCategory (a0 : XCategory) (a1 : Int) : Option (Int × XCategory) :=
  (M.laws_markInt64S a0.From a1).bind fun v1 =>
  (M.laws_markInt64S a0.To v1.1).bind fun v2 =>
  (M.laws_markInt64S a0.Identity v2.1).bind fun v3 =>
  (M.laws_markInt64SS a0.Composites v3.1).bind fun v4 =>
  some (v4.1, (⟨a0.Objects, v1.2, v2.2, v3.2, v4.2⟩ : XCategory))

theorem M.len_markCategory {a0 : XCategory} {a1 : Int} {r : Int × XCategory} (h : M.laws_markCategory a0 a1 = some r) : a0.Objects = r.2.Objects ∧ a0.From.length = r.2.From.length ∧ a0.To.length = r.2.To.length ∧ a0.Identity.length = r.2.Identity.length ∧ a0.Composites.length = r.2.Composites.length := by
  unfold M.laws_markCategory at h
  obtain ⟨v0, h0, h⟩ := bind_some' h
  have l0 := M.len_markInt64S h0
  obtain ⟨v1, h1, h⟩ := bind_some' h
  have l1 := M.len_markInt64S h1
  obtain ⟨v2, h2, h⟩ := bind_some' h
  have l2 := M.len_markInt64S h2
  obtain ⟨v3, h3, h⟩ := bind_some' h
  have l3 := M.len_markInt64SS h3
  obtain rfl := Option.some.inj h
  refine ⟨?_, ?_, ?_, ?_, ?_⟩ <;> dsimp only <;> omega
def M.laws_markFunctor (a0 : XFunctor) (a1 : Int) : Option (Int × XFunctor) :=
  (M.laws_markCategory a0.Source a1).bind fun v1 =>
  (M.laws_markCategory a0.Target v1.1).bind fun v2 =>
  (M.laws_markInt64S a0.Objects v2.1).bind fun v3 =>
  (M.laws_markInt64S a0.Arrows v3.1).bind fun v4 =>
  some (v4.1, (⟨(⟨a0.Source.Objects, v1.2.From, v1.2.To, v1.2.Identity, v1.2.Composites⟩ : XCategory), (⟨a0.Target.Objects, v2.2.From, v2.2.To, v2.2.Identity, v2.2.Composites⟩ : XCategory), v3.2, v4.2⟩ : XFunctor))

theorem M.len_markFunctor {a0 : XFunctor} {a1 : Int} {r : Int × XFunctor} (h : M.laws_markFunctor a0 a1 = some r) : a0.Source.Objects = r.2.Source.Objects ∧ a0.Source.From.length = r.2.Source.From.length ∧ a0.Source.To.length = r.2.Source.To.length ∧ a0.Source.Identity.length = r.2.Source.Identity.length ∧ a0.Source.Composites.length = r.2.Source.Composites.length ∧ a0.Target.Objects = r.2.Target.Objects ∧ a0.Target.From.length = r.2.Target.From.length ∧ a0.Target.To.length = r.2.Target.To.length ∧ a0.Target.Identity.length = r.2.Target.Identity.length ∧ a0.Target.Composites.length = r.2.Target.Composites.length ∧ a0.Objects.length = r.2.Objects.length ∧ a0.Arrows.length = r.2.Arrows.length := by
  unfold M.laws_markFunctor at h
  obtain ⟨v0, h0, h⟩ := bind_some' h
  have l0 := M.len_markCategory h0
  obtain ⟨v1, h1, h⟩ := bind_some' h
  have l1 := M.len_markCategory h1
  obtain ⟨v2, h2, h⟩ := bind_some' h
  have l2 := M.len_markInt64S h2
  obtain ⟨v3, h3, h⟩ := bind_some' h
  have l3 := M.len_markInt64S h3
  obtain rfl := Option.some.inj h
  refine ⟨?_, ?_, ?_, ?_, ?_, ?_, ?_, ?_, ?_, ?_, ?_, ?_⟩ <;> dsimp only <;> omega
theorem rsC_eXFunctor (q : Nat) {x y : XFunctor} (h : x.Source.Objects = y.Source.Objects ∧ x.Source.From.length = y.Source.From.length ∧ x.Source.To.length = y.Source.To.length ∧ x.Source.Identity.length = y.Source.Identity.length ∧ x.Source.Composites.length = y.Source.Composites.length ∧ x.Target.Objects = y.Target.Objects ∧ x.Target.From.length = y.Target.From.length ∧ x.Target.To.length = y.Target.To.length ∧ x.Target.Identity.length = y.Target.Identity.length ∧ x.Target.Composites.length = y.Target.Composites.length ∧ x.Objects.length = y.Objects.length ∧ x.Arrows.length = y.Arrows.length) : rsC q (eXFunctor.o x) = rsC q (eXFunctor.o y) := by
  obtain ⟨h0, h1, h2, h3, h4, h5, h6, h7, h8, h9, h10, h11⟩ := h
  have e : ∀ z : XFunctor, rsC q (eXFunctor.o z) = [iv z.Source.Objects, .rs (q + 1) 0 z.Source.From.length, .rs (q + 1 + 1) 0 z.Source.To.length, .rs (q + 1 + 1 + 1) 0 z.Source.Identity.length, .rs (q + 1 + 1 + 1 + 1) 0 z.Source.Composites.length, iv z.Target.Objects, .rs (q + 1 + 1 + 1 + 1 + 1 + 1) 0 z.Target.From.length, .rs (q + 1 + 1 + 1 + 1 + 1 + 1 + 1) 0 z.Target.To.length, .rs (q + 1 + 1 + 1 + 1 + 1 + 1 + 1 + 1) 0 z.Target.Identity.length, .rs (q + 1 + 1 + 1 + 1 + 1 + 1 + 1 + 1 + 1) 0 z.Target.Composites.length, .rs (q + 1 + 1 + 1 + 1 + 1 + 1 + 1 + 1 + 1 + 1) 0 z.Objects.length, .rs (q + 1 + 1 + 1 + 1 + 1 + 1 + 1 + 1 + 1 + 1 + 1) 0 z.Arrows.length] := fun _ => rfl
  rw [e, e, h0, h1, h2, h3, h4, h5, h6, h7, h8, h9, h10, h11]

def M.laws_heldInt64S (a0 : List Int) (a1 : Int) : Option Int :=
  iter (fun (s1 : Int × Int) next2 =>
    if decide (s1.2 < (a0.length : Int)) then
      (idx a0 s1.2).bind fun y6 =>
      if y6 != s1.1 then
        some (-1)
      else
        next2 (IntKind.i64.wrap (s1.1 + 1), IntKind.i64.wrap (s1.2 + 1))
    else
      some s1.1) fuel (a1, 0)

def M.laws_heldInt64SS (a0 : List (List Int)) (a1 : Int) : Option Int :=
  iter (fun (s1 : Int × Int) next2 =>
    if decide (s1.2 < (a0.length : Int)) then
      (idx a0 s1.2).bind fun y6 =>
      (M.laws_heldInt64S y6 s1.1).bind fun v7 =>
      if decide (v7 < 0) then
        some (-1)
      else
        next2 (v7, IntKind.i64.wrap (s1.2 + 1))
    else
      some s1.1) fuel (a1, 0)

def M.laws_heldCategory (a0 : XCategory) (a1 : Int) : Option Int :=
  (M.laws_heldInt64S a0.From a1).bind fun v1 =>
  if decide (v1 < 0) then
    some (-1)
  else
    (M.laws_heldInt64S a0.To v1).bind fun v3 =>
    if decide (v3 < 0) then
      some (-1)
    else
      (M.laws_heldInt64S a0.Identity v3).bind fun v5 =>
      if decide (v5 < 0) then
        some (-1)
      else
        (M.laws_heldInt64SS a0.Composites v5).bind fun v7 =>
        if decide (v7 < 0) then
          some (-1)
        else
          some v7

def M.laws_heldFunctor (a0 : XFunctor) (a1 : Int) : Option Int :=
  (M.laws_heldCategory a0.Source a1).bind fun v1 =>
  if decide (v1 < 0) then
    some (-1)
  else
    (M.laws_heldCategory a0.Target v1).bind fun v3 =>
    if decide (v3 < 0) then
      some (-1)
    else
      (M.laws_heldInt64S a0.Objects v3).bind fun v5 =>
      if decide (v5 < 0) then
        some (-1)
      else
        (M.laws_heldInt64S a0.Arrows v5).bind fun v7 =>
        if decide (v7 < 0) then
          some (-1)
        else
          some v7

end Go.Gx

/- Models of the functions. Printed by wip/gen. -/
namespace Go.Gx

def M.spec_l02Hom (a0 : XCategory) (a1 : Int) (a2 : Int) : Option (List Int) :=
  iter (fun (s1 : (List Int) × Int) next2 =>
    if decide (s1.2 < (a0.From.length : Int)) then
      (idx a0.From s1.2).bind fun y6 =>
      if y6 == a1 then
        (idx a0.To s1.2).bind fun y8 =>
        if y8 == a2 then
          chk (s1.1.length + (([s1.2] : List Int).length) ≤ lim) (
            next2 (s1.1 ++ ([s1.2] : List Int), IntKind.i64.wrap (s1.2 + 1)))
        else
          next2 (s1.1, IntKind.i64.wrap (s1.2 + 1))
      else
        next2 (s1.1, IntKind.i64.wrap (s1.2 + 1))
    else
      some s1.1) fuel (([] : List Int), 0)

def M.spec_l02Then (a0 : XCategory) (a1 : Int) (a2 : Int) : Option Int :=
  (idx a0.Composites a1).bind fun y1 =>
  (idx y1 a2).bind fun y2 =>
  some y2

def M.impl_Category_hom (a0 : XCategory) (a1 : Int) (a2 : Int) : Option (List Int) :=
  iter (fun (s1 : (List Int) × Int) next2 =>
    if decide (s1.2 < (a0.From.length : Int)) then
      (idx a0.From s1.2).bind fun y6 =>
      if y6 == a1 then
        (idx a0.To s1.2).bind fun y8 =>
        if y8 == a2 then
          chk (s1.1.length + (([s1.2] : List Int).length) ≤ lim) (
            next2 (s1.1 ++ ([s1.2] : List Int), IntKind.i64.wrap (s1.2 + 1)))
        else
          next2 (s1.1, IntKind.i64.wrap (s1.2 + 1))
      else
        next2 (s1.1, IntKind.i64.wrap (s1.2 + 1))
    else
      some s1.1) fuel (([] : List Int), 0)

end Go.Gx

/- Models of the functions. Printed by wip/gen. -/
namespace Go.Gx

structure XSetFunctor where
  Shape : XCategory
  Sizes : List Int
  Actions : List (List Int)
def eXSetFunctor : Enc XSetFunctor := (eA (eC eXCategory XSetFunctor.Shape) (eA (eC (eS eI) XSetFunctor.Sizes) (eC (eS (eS eI)) XSetFunctor.Actions)))
def R.XSetFunctor (x : XSetFunctor) : Prop := (R.XCategory x.Shape) ∧ (AllL I64 x.Sizes) ∧ (AllL (AllL I64) x.Actions)
structure XSetMap where
  Source : XSetFunctor
  Target : XSetFunctor
  Parts : List (List Int)
def R.XSetMap (x : XSetMap) : Prop := (R.XSetFunctor x.Source) ∧ (R.XSetFunctor x.Target) ∧ (AllL (AllL I64) x.Parts)
def M.laws_szSetFunctor (a0 : XSetFunctor) (a1 : Int) : Option Int :=
  (M.laws_szCategory a0.Shape a1).bind fun v1 =>
  if decide (v1 < 0) then
    some (-1)
  else
    (M.laws_szInt64S a0.Sizes v1).bind fun v3 =>
    if decide (v3 < 0) then
      some (-1)
    else
      (M.laws_szInt64SS a0.Actions v3).bind fun v5 =>
      if decide (v5 < 0) then
        some (-1)
      else
        some v5

def M.spec_l19Shape (a0 : XSetFunctor) : Option Bool :=
  (M.spec_l02Is a0.Shape).bind fun v1 =>
  if v1 then
    if (a0.Sizes.length : Int) != a0.Shape.Objects then
      some false
    else
      if (a0.Actions.length : Int) != (a0.Shape.From.length : Int) then
        some false
      else
        iter (fun (s5 : Int) next6 =>
          if decide (s5 < (a0.Sizes.length : Int)) then
            (idx a0.Sizes s5).bind fun y10 =>
            (M.spec_l01In y10 0 16).bind fun v11 =>
            if v11 then
              next6 (IntKind.i64.wrap (s5 + 1))
            else
              some false
          else
            iter (fun (s13 : Int) next14 =>
              if decide (s13 < (a0.Actions.length : Int)) then
                (idx a0.Actions s13).bind fun y18 =>
                (idx a0.Shape.From s13).bind fun y19 =>
                (idx a0.Sizes y19).bind fun y20 =>
                if (y18.length : Int) != y20 then
                  some false
                else
                  (idx a0.Shape.To s13).bind fun y22 =>
                  (idx a0.Sizes y22).bind fun y23 =>
                  (M.spec_l01Map y23 y18).bind fun v24 =>
                  if v24 then
                    next14 (IntKind.i64.wrap (s13 + 1))
                  else
                    some false
              else
                some true) fuel 0) fuel 0
  else
    some false

def M.spec_l19Fault (a0 : XSetFunctor) : Option (Int × Int × Int × Int) :=
  iter (fun (s1 : Int) next2 =>
    if decide (s1 < a0.Shape.Objects) then
      iter (fun (s6 : Int) next7 =>
        (idx a0.Sizes s1).bind fun y10 =>
        if decide (s6 < y10) then
          (idx a0.Shape.Identity s1).bind fun y12 =>
          (idx a0.Actions y12).bind fun y13 =>
          (idx y13 s6).bind fun y14 =>
          if y14 != s6 then
            some (1, s1, s6, 0)
          else
            next7 (IntKind.i64.wrap (s6 + 1))
        else
          next2 (IntKind.i64.wrap (s1 + 1))) fuel 0
    else
      iter (fun (s16 : Int) next17 =>
        if decide (s16 < (a0.Shape.From.length : Int)) then
          iter (fun (s21 : Int) next22 =>
            if decide (s21 < (a0.Shape.From.length : Int)) then
              (idx a0.Shape.To s16).bind fun y26 =>
              (idx a0.Shape.From s21).bind fun y27 =>
              if y26 != y27 then
                next22 (IntKind.i64.wrap (s21 + 1))
              else
                iter (fun (s29 : Int) next30 =>
                  (idx a0.Shape.From s16).bind fun y33 =>
                  (idx a0.Sizes y33).bind fun y34 =>
                  if decide (s29 < y34) then
                    (idx a0.Shape.Composites s16).bind fun y36 =>
                    (idx y36 s21).bind fun y37 =>
                    (idx a0.Actions y37).bind fun y38 =>
                    (idx y38 s29).bind fun y39 =>
                    (idx a0.Actions s21).bind fun y40 =>
                    (idx a0.Actions s16).bind fun y41 =>
                    (idx y41 s29).bind fun y42 =>
                    (idx y40 y42).bind fun y43 =>
                    if y39 != y43 then
                      some (2, s16, s21, s29)
                    else
                      next30 (IntKind.i64.wrap (s29 + 1))
                  else
                    next22 (IntKind.i64.wrap (s21 + 1))) fuel 0
            else
              next17 (IntKind.i64.wrap (s16 + 1))) fuel 0
        else
          some (0, 0, 0, 0)) fuel 0) fuel 0

def M.spec_l19Is (a0 : XSetFunctor) : Option Bool :=
  (M.spec_l19Shape a0).bind fun v1 =>
  if v1 then
    (M.spec_l19Fault a0).bind fun v3 =>
    some (v3.1 == 0)
  else
    some false

def M.laws_toSetFunctor (a0 : XSetFunctor) : Option XSetFunctor :=
  (M.laws_toCategory a0.Shape).bind fun v1 =>
  (M.laws_toInt64S a0.Sizes).bind fun v2 =>
  (M.laws_toInt64SS a0.Actions).bind fun v3 =>
  some (⟨v1, v2, v3⟩ : XSetFunctor)

def M.impl_isMapOf (a0 : List Int) (a1 : Int) (a2 : Int) : Option Bool :=
  if (a0.length : Int) == a1 then
    (M.impl_within a0 a2).bind fun v2 =>
    some v2
  else
    some false

def M.impl_SetFunctor_isShape (a0 : XSetFunctor) : Option Bool :=
  (M.impl_Category_isCategory a0.Shape).bind fun v1 =>
  if v1 then
    if (a0.Sizes.length : Int) != a0.Shape.Objects then
      some false
    else
      (M.impl_within a0.Sizes 17).bind fun v4 =>
      if v4 then
        (M.impl_Category_arrows a0.Shape).bind fun v6 =>
        if (a0.Actions.length : Int) != v6 then
          some false
        else
          iter (fun (s8 : Int) next9 =>
            if decide (s8 < (a0.Actions.length : Int)) then
              (idx a0.Actions s8).bind fun y13 =>
              (idx a0.Shape.From s8).bind fun y14 =>
              (idx a0.Sizes y14).bind fun y15 =>
              (idx a0.Shape.To s8).bind fun y16 =>
              (idx a0.Sizes y16).bind fun y17 =>
              (M.impl_isMapOf y13 y15 y17).bind fun v18 =>
              if v18 then
                next9 (IntKind.i64.wrap (s8 + 1))
              else
                some false
            else
              some true) fuel 0
      else
        some false
  else
    some false

def M.impl_SetFunctor_fault (a0 : XSetFunctor) : Option (Int × Int × Int × Int) :=
  iter (fun (s1 : Int) next2 =>
    if decide (s1 < (a0.Shape.Identity.length : Int)) then
      (idx a0.Shape.Identity s1).bind fun y6 =>
      (idx a0.Actions y6).bind fun y7 =>
      iter (fun (s8 : Int) next9 =>
        if decide (s8 < (y7.length : Int)) then
          (idx y7 s8).bind fun y13 =>
          if y13 != s8 then
            some (1, s1, s8, 0)
          else
            next9 (IntKind.i64.wrap (s8 + 1))
        else
          next2 (IntKind.i64.wrap (s1 + 1))) fuel 0
    else
      iter (fun (s15 : Int) next16 =>
        if decide (s15 < (a0.Shape.Composites.length : Int)) then
          (idx a0.Shape.Composites s15).bind fun y20 =>
          iter (fun (s21 : Int) next22 =>
            if decide (s21 < (y20.length : Int)) then
              (idx y20 s21).bind fun y26 =>
              if decide (y26 < 0) then
                next22 (IntKind.i64.wrap (s21 + 1))
              else
                (idx a0.Actions s15).bind fun y28 =>
                iter (fun (s29 : Int) next30 =>
                  if decide (s29 < (y28.length : Int)) then
                    (idx y28 s29).bind fun y34 =>
                    (idx a0.Actions y26).bind fun y35 =>
                    (idx y35 s29).bind fun y36 =>
                    (idx a0.Actions s21).bind fun y37 =>
                    (idx y37 y34).bind fun y38 =>
                    if y36 != y38 then
                      some (2, s15, s21, s29)
                    else
                      next30 (IntKind.i64.wrap (s29 + 1))
                  else
                    next22 (IntKind.i64.wrap (s21 + 1))) fuel 0
            else
              next16 (IntKind.i64.wrap (s15 + 1))) fuel 0
        else
          some (0, 0, 0, 0)) fuel 0) fuel 0

def M.impl_SetFunctor_isSetFunctor (a0 : XSetFunctor) : Option Bool :=
  (M.impl_SetFunctor_isShape a0).bind fun v1 =>
  if v1 then
    (M.impl_SetFunctor_fault a0).bind fun v3 =>
    some (v3.1 == 0)
  else
    some false

def M.laws_eqSetFunctor (a0 : XSetFunctor) (a1 : XSetFunctor) : Option Bool :=
  (M.laws_eqCategory a0.Shape a1.Shape).bind fun v1 =>
  if v1 then
    (M.laws_eqInt64S a0.Sizes a1.Sizes).bind fun v3 =>
    if v3 then
      (M.laws_eqInt64SS a0.Actions a1.Actions).bind fun v5 =>
      if v5 then
        some true
      else
        some false
    else
      some false
  else
    some false

def M.laws_markSetFunctor (a0 : XSetFunctor) (a1 : Int) : Option (Int × XSetFunctor) :=
  (M.laws_markCategory a0.Shape a1).bind fun v1 =>
  (M.laws_markInt64S a0.Sizes v1.1).bind fun v2 =>
  (M.laws_markInt64SS a0.Actions v2.1).bind fun v3 =>
  some (v3.1, (⟨(⟨a0.Shape.Objects, v1.2.From, v1.2.To, v1.2.Identity, v1.2.Composites⟩ : XCategory), v2.2, v3.2⟩ : XSetFunctor))

def M.laws_heldSetFunctor (a0 : XSetFunctor) (a1 : Int) : Option Int :=
  (M.laws_heldCategory a0.Shape a1).bind fun v1 =>
  if decide (v1 < 0) then
    some (-1)
  else
    (M.laws_heldInt64S a0.Sizes v1).bind fun v3 =>
    if decide (v3 < 0) then
      some (-1)
    else
      (M.laws_heldInt64SS a0.Actions v3).bind fun v5 =>
      if decide (v5 < 0) then
        some (-1)
      else
        some v5

end Go.Gx

/- Models of the functions. Printed by wip/gen. -/
namespace Go.Gx

structure XTransformation where
  Source : XFunctor
  Target : XFunctor
  Components : List Int
def R.XTransformation (x : XTransformation) : Prop := (R.XFunctor x.Source) ∧ (R.XFunctor x.Target) ∧ (AllL I64 x.Components)
end Go.Gx

/- Models of the functions. Printed by wip/gen. -/
namespace Go.Gx

def M.spec_l01Same (a0 : List Int) (a1 : List Int) : Option Bool :=
  if (a0.length : Int) != (a1.length : Int) then
    some false
  else
    iter (fun (s2 : Int) next3 =>
      if decide (s2 < (a0.length : Int)) then
        (idx a0 s2).bind fun y7 =>
        (idx a1 s2).bind fun y8 =>
        if y7 != y8 then
          some false
        else
          next3 (IntKind.i64.wrap (s2 + 1))
      else
        some true) fuel 0

end Go.Gx

/- Models of the functions. Printed by wip/gen. -/
namespace Go.Gx

end Go.Gx

/- Models of the functions. Printed by wip/gen. -/
namespace Go.Gx

end Go.Gx

/- Models of the functions. Printed by wip/gen. -/
namespace Go.Gx

structure Xl20Space where
  c_ : XCategory
  objects_ : List (List Int)
  arrows_ : List (List Int)
def eXl20Space : Enc Xl20Space := (eA (eC eXCategory Xl20Space.c_) (eA (eC (eF (eS (eS eI))) Xl20Space.objects_) (eC (eF (eS (eS eI))) Xl20Space.arrows_)))
def R.Xl20Space (x : Xl20Space) : Prop := (R.XCategory x.c_) ∧ (AllL (AllL I64) x.objects_) ∧ (AllL (AllL I64) x.arrows_)

structure Xgrothendieck_q where
  q0_ : Unit
  q1_ : Unit
  q2_ : Unit
  q3_ : Unit
  q4_ : Unit
  q5_ : Unit
  arrows_ : List (List Int)
  q7_ : Unit
  arrowAt_ : List (ByteArray × Int)
def eXgrothendieck_q : Enc Xgrothendieck_q := (eA (eC eAny Xgrothendieck_q.q0_) (eA (eC eAny Xgrothendieck_q.q1_) (eA (eC eAny Xgrothendieck_q.q2_) (eA (eC eAny Xgrothendieck_q.q3_) (eA (eC eAny Xgrothendieck_q.q4_) (eA (eC eAny Xgrothendieck_q.q5_) (eA (eC (eF (eS (eS eI))) Xgrothendieck_q.arrows_) (eA (eC eAny Xgrothendieck_q.q7_) (eC (eM kS vI) Xgrothendieck_q.arrowAt_)))))))))
def R.Xgrothendieck_q (x : Xgrothendieck_q) : Prop := ((fun _ => True) x.q0_) ∧ ((fun _ => True) x.q1_) ∧ ((fun _ => True) x.q2_) ∧ ((fun _ => True) x.q3_) ∧ ((fun _ => True) x.q4_) ∧ ((fun _ => True) x.q5_) ∧ (AllL (AllL I64) x.arrows_) ∧ ((fun _ => True) x.q7_) ∧ ((fun _ => True) x.arrowAt_)

structure Xgrothendieck where
  category_ : XCategory
  objects_ : List (List Int)
  arrows_ : List (List Int)
  objectAt_ : List (ByteArray × Int)
  arrowAt_ : List (ByteArray × Int)
def eXgrothendieck : Enc Xgrothendieck := (eA (eC eXCategory Xgrothendieck.category_) (eA (eC (eF (eS (eS eI))) Xgrothendieck.objects_) (eA (eC (eF (eS (eS eI))) Xgrothendieck.arrows_) (eA (eC (eM kS vI) Xgrothendieck.objectAt_) (eC (eM kS vI) Xgrothendieck.arrowAt_)))))
def R.Xgrothendieck (x : Xgrothendieck) : Prop := (R.XCategory x.category_) ∧ (AllL (AllL I64) x.objects_) ∧ (AllL (AllL I64) x.arrows_) ∧ ((fun _ => True) x.objectAt_) ∧ ((fun _ => True) x.arrowAt_)

def M.spec_l05Place (a0 : List (List Int)) (a1 : List Int) : Option Int :=
  iter (fun (s1 : Int) next2 =>
    if decide (s1 < (a0.length : Int)) then
      (idx a0 s1).bind fun y6 =>
      (M.spec_l01Same y6 a1).bind fun v7 =>
      if v7 then
        some s1
      else
        next2 (IntKind.i64.wrap (s1 + 1))
    else
      some (-1)) fuel 0

def M.spec_l20Elements (a0 : XSetFunctor) : Option (Xl20Space × Bool) :=
  iter (fun (s1 : (List (List Int)) × Int) next2 =>
    if decide (s1.2 < a0.Shape.Objects) then
      iter (fun (s6 : (List (List Int)) × Int) next7 =>
        (idx a0.Sizes s1.2).bind fun y10 =>
        if decide (s6.2 < y10) then
          chk (s6.1.length + 1 ≤ lim) (
            next7 (s6.1 ++ [[s1.2, s6.2]], IntKind.i64.wrap (s6.2 + 1)))
        else
          next2 (s6.1, IntKind.i64.wrap (s1.2 + 1))) fuel (s1.1, 0)
    else
      if decide ((s1.1.length : Int) > 8) then
        some ((⟨(⟨0, [], [], [], []⟩ : XCategory), [], []⟩ : Xl20Space), false)
      else
        iter (fun (s14 : (List (List Int)) × Int) next15 =>
          if decide (s14.2 < (s1.1.length : Int)) then
            iter (fun (s19 : (List (List Int)) × Int) next20 =>
              if decide (s19.2 < (s1.1.length : Int)) then
                (idx s1.1 s14.2).bind fun y24 =>
                (idx s1.1 s19.2).bind fun y25 =>
                (idx y24 0).bind fun y26 =>
                (idx y25 0).bind fun y27 =>
                (M.spec_l02Hom a0.Shape y26 y27).bind fun v28 =>
                iter (fun (s29 : (List (List Int)) × Int) next30 =>
                  if decide (s29.2 < (v28.length : Int)) then
                    (idx v28 s29.2).bind fun y34 =>
                    (idx a0.Actions y34).bind fun y35 =>
                    (idx y24 1).bind fun y36 =>
                    (idx y35 y36).bind fun y37 =>
                    (idx y25 1).bind fun y38 =>
                    if y37 == y38 then
                      chk (s29.1.length + 1 ≤ lim) (
                        next30 (s29.1 ++ [[s14.2, s19.2, y34]], IntKind.i64.wrap (s29.2 + 1)))
                    else
                      next30 (s29.1, IntKind.i64.wrap (s29.2 + 1))
                  else
                    next20 (s29.1, IntKind.i64.wrap (s19.2 + 1))) fuel (s19.1, 0)
              else
                next15 (s19.1, IntKind.i64.wrap (s14.2 + 1))) fuel (s14.1, 0)
          else
            if decide ((s14.1.length : Int) > 40) then
              some ((⟨(⟨0, [], [], [], []⟩ : XCategory), [], []⟩ : Xl20Space), false)
            else
              iter (fun (s42 : (List Int) × Int) next43 =>
                if decide (s42.2 < (s1.1.length : Int)) then
                  (idx s1.1 s42.2).bind fun y47 =>
                  (idx y47 0).bind fun y48 =>
                  (idx a0.Shape.Identity y48).bind fun y49 =>
                  (M.spec_l05Place s14.1 ([s42.2, s42.2, y49] : List Int)).bind fun v50 =>
                  chk (s42.1.length + (([v50] : List Int).length) ≤ lim) (
                    next43 (s42.1 ++ ([v50] : List Int), IntKind.i64.wrap (s42.2 + 1)))
                else
                  iter (fun (s52 : (List Int) × (List Int) × (List (List Int)) × Int) next53 =>
                    if decide (s52.2.2.2 < (s14.1.length : Int)) then
                      (idx s14.1 s52.2.2.2).bind fun y57 =>
                      (idx y57 0).bind fun y58 =>
                      chk (s52.1.length + (([y58] : List Int).length) ≤ lim) (
                        (idx y57 1).bind fun y60 =>
                        chk (s52.2.1.length + (([y60] : List Int).length) ≤ lim) (
                          iter (fun (s62 : (List Int) × Int) next63 =>
                            if decide (s62.2 < (s14.1.length : Int)) then
                              (idx s14.1 s62.2).bind fun y67 =>
                              (idx y67 0).bind fun y68 =>
                              if y60 == y68 then
                                (idx y67 1).bind fun y70 =>
                                (idx y57 2).bind fun y71 =>
                                (idx y67 2).bind fun y72 =>
                                (M.spec_l02Then a0.Shape y71 y72).bind fun v73 =>
                                (M.spec_l05Place s14.1 ([y58, y70, v73] : List Int)).bind fun v74 =>
                                chk (s62.1.length + (([v74] : List Int).length) ≤ lim) (
                                  next63 (s62.1 ++ ([v74] : List Int), IntKind.i64.wrap (s62.2 + 1)))
                              else
                                chk (s62.1.length + (([(-1)] : List Int).length) ≤ lim) (
                                  next63 (s62.1 ++ ([(-1)] : List Int), IntKind.i64.wrap (s62.2 + 1)))
                            else
                              chk (s52.2.2.1.length + 1 ≤ lim) (
                                next53 (s52.1 ++ ([y58] : List Int), s52.2.1 ++ ([y60] : List Int), s52.2.2.1 ++ [s62.1], IntKind.i64.wrap (s52.2.2.2 + 1)))) fuel (([] : List Int), 0)))
                    else
                      some ((⟨(⟨(s1.1.length : Int), s52.1, s52.2.1, s42.1, s52.2.2.1⟩ : XCategory), s1.1, s14.1⟩ : Xl20Space), true)) fuel (([] : List Int), ([] : List Int), ([] : List (List Int)), 0)) fuel (([] : List Int), 0)) fuel (([] : List (List Int)), 0)) fuel (([] : List (List Int)), 0)

def M.spec_ElementsProjection (a0 : XSetFunctor) : Option (XFunctor × Int) :=
  (M.spec_l19Is a0).bind fun v1 =>
  if v1 then
    (M.spec_l20Elements a0).bind fun v3 =>
    if v3.2 then
      iter (fun (s5 : (List Int) × Int) next6 =>
        if decide (s5.2 < (v3.1.objects_.length : Int)) then
          (idx v3.1.objects_ s5.2).bind fun y10 =>
          (idx y10 0).bind fun y11 =>
          chk (s5.1.length + (([y11] : List Int).length) ≤ lim) (
            next6 (s5.1 ++ ([y11] : List Int), IntKind.i64.wrap (s5.2 + 1)))
        else
          iter (fun (s13 : (List Int) × Int) next14 =>
            if decide (s13.2 < (v3.1.arrows_.length : Int)) then
              (idx v3.1.arrows_ s13.2).bind fun y18 =>
              (idx y18 2).bind fun y19 =>
              chk (s13.1.length + (([y19] : List Int).length) ≤ lim) (
                next14 (s13.1 ++ ([y19] : List Int), IntKind.i64.wrap (s13.2 + 1)))
            else
              (M.spec_l06Make v3.1.c_ a0.Shape s5.1 s13.1).bind fun v21 =>
              some (v21, 0)) fuel (([] : List Int), 0)) fuel (([] : List Int), 0)
    else
      some ((⟨(⟨0, [], [], [], []⟩ : XCategory), (⟨0, [], [], [], []⟩ : XCategory), [], []⟩ : XFunctor), 3)
  else
    some ((⟨(⟨0, [], [], [], []⟩ : XCategory), (⟨0, [], [], [], []⟩ : XCategory), [], []⟩ : XFunctor), 1)

def M.impl_column (a0 : List (List Int)) (a1 : Int) : Option (List Int) :=
  iter (fun (s1 : (List Int) × Int) next2 =>
    if decide (s1.2 < (a0.length : Int)) then
      (idx a0 s1.2).bind fun y6 =>
      (idx y6 a1).bind fun y7 =>
      chk (s1.1.length + (([y7] : List Int).length) ≤ lim) (
        next2 (s1.1 ++ ([y7] : List Int), IntKind.i64.wrap (s1.2 + 1)))
    else
      some s1.1) fuel (([] : List Int), 0)

def M.impl_SetFunctor_elements (a0 : XSetFunctor) : Option Int :=
  iter (fun (s1 : Int × Int) next2 =>
    if decide (s1.1 < (a0.Sizes.length : Int)) then
      (idx a0.Sizes s1.1).bind fun y6 =>
      next2 (IntKind.i64.wrap (s1.1 + 1), IntKind.i64.wrap (s1.2 + y6))
    else
      some s1.2) fuel (0, 0)

def M.impl_SetFunctor_elementPairs (a0 : XSetFunctor) : Option (List (List Int)) :=
  iter (fun (s1 : (List (List Int)) × Int) next2 =>
    if decide (s1.2 < (a0.Sizes.length : Int)) then
      (idx a0.Sizes s1.2).bind fun y6 =>
      iter (fun (s7 : (List (List Int)) × Int) next8 =>
        if decide (s7.2 < y6) then
          chk (s7.1.length + 1 ≤ lim) (
            next8 (s7.1 ++ [[s1.2, s7.2]], IntKind.i64.wrap (s7.2 + 1)))
        else
          next2 (s7.1, IntKind.i64.wrap (s1.2 + 1))) fuel (s1.1, 0)
    else
      some s1.1) fuel (([] : List (List Int)), 0)

def M.impl_key (a0 : List (List Int)) : Option ByteArray :=
  iter (fun (s1 : (List Int) × Int) next2 =>
    if decide (s1.2 < (a0.length : Int)) then
      (idx a0 s1.2).bind fun y6 =>
      iter (fun (s7 : (List Int) × Int) next8 =>
        if decide (s7.2 < (y6.length : Int)) then
          (idx y6 s7.2).bind fun y12 =>
          chk (s7.1.length + (([IntKind.u8.wrap y12] : List Int).length) ≤ lim) (
            next8 (s7.1 ++ ([IntKind.u8.wrap y12] : List Int), IntKind.i64.wrap (s7.2 + 1)))
        else
          chk (s7.1.length + (([255] : List Int).length) ≤ lim) (
            next2 (s7.1 ++ ([255] : List Int), IntKind.i64.wrap (s1.2 + 1)))) fuel (s1.1, 0)
    else
      some (strI s1.1)) fuel (([] : List Int), 0)

def M.impl_places (a0 : List (List Int)) : Option (List (ByteArray × Int)) :=
  iter (fun (s1 : (List (ByteArray × Int)) × Int) next2 =>
    if decide (s1.2 < (a0.length : Int)) then
      (idx a0 s1.2).bind fun y6 =>
      (M.impl_key ([y6] : List (List Int))).bind fun v7 =>
      next2 (mput v7 s1.2 s1.1, IntKind.i64.wrap (s1.2 + 1))
    else
      some s1.1) fuel (([] : List (ByteArray × Int)), 0)

def M.impl_SetFunctor_elementsCategory_1 (a0 : Int) (a1 : Int) (a2 : Xgrothendieck_q) (a3 : XCategory) : Option Int :=
  (idx a2.arrows_ a0).bind fun y1 =>
  (idx a2.arrows_ a1).bind fun y2 =>
  (idx y1 0).bind fun y3 =>
  (idx y2 1).bind fun y4 =>
  (idx y1 2).bind fun y5 =>
  (idx y2 2).bind fun y6 =>
  (M.impl_Category_then a3 y5 y6).bind fun v7 =>
  (M.impl_key ([[y3, y4, v7]] : List (List Int))).bind fun v8 =>
  some ((mget v8 a2.arrowAt_).getD 0)

def M.impl_Category_table_grothendieck (a0 : Xgrothendieck) (a1 : XSetFunctor) : Option Xgrothendieck :=
  (M.impl_Category_arrows a0.category_).bind fun v1 =>
  chk ((0 : Int) ≤ v1 ∧ v1 ≤ (lim : Int)) (
    iter (fun (s3 : (List (List Int)) × Int) next4 =>
      if decide (s3.2 < ((List.replicate v1.toNat ([] : List Int)).length : Int)) then
        (idx s3.1 s3.2).bind fun _ =>
        (idx (s3.1.set s3.2.toNat (List.replicate v1.toNat (0 : Int))) s3.2).bind fun y9 =>
        iter (fun (s10 : (List (List Int)) × Int) next11 =>
          if decide (s10.2 < (y9.length : Int)) then
            (idx s10.1 s3.2).bind fun y15 =>
            (idx y15 s10.2).bind fun _ =>
            (idx a0.category_.To s3.2).bind fun y17 =>
            (idx a0.category_.From s10.2).bind fun y18 =>
            if y17 == y18 then
              (idx (s10.1.set s3.2.toNat (y15.set s10.2.toNat (-1))) s3.2).bind fun y20 =>
              (M.impl_SetFunctor_elementsCategory_1 s3.2 s10.2 (⟨(), (), (), (), (), (), a0.arrows_, (), a0.arrowAt_⟩ : Xgrothendieck_q) a1.Shape).bind fun v21 =>
              (idx y20 s10.2).bind fun _ =>
              next11 ((s10.1.set s3.2.toNat (y15.set s10.2.toNat (-1))).set s3.2.toNat (y20.set s10.2.toNat v21), IntKind.i64.wrap (s10.2 + 1))
            else
              next11 (s10.1.set s3.2.toNat (y15.set s10.2.toNat (-1)), IntKind.i64.wrap (s10.2 + 1))
          else
            next4 (s10.1, IntKind.i64.wrap (s3.2 + 1))) fuel (s3.1.set s3.2.toNat (List.replicate v1.toNat (0 : Int)), 0)
      else
        some (⟨(⟨a0.category_.Objects, a0.category_.From, a0.category_.To, a0.category_.Identity, s3.1⟩ : XCategory), a0.objects_, a0.arrows_, a0.objectAt_, a0.arrowAt_⟩ : Xgrothendieck)) fuel ((List.replicate v1.toNat ([] : List Int)), 0))

def M.impl_SetFunctor_elementsCategory (a0 : XSetFunctor) : Option (Xgrothendieck × Bool) :=
  (M.impl_SetFunctor_elements a0).bind fun v1 =>
  if decide (v1 > 8) then
    some ((⟨⟨0, [], [], [], []⟩, [], [], [], []⟩ : Xgrothendieck), false)
  else
    (M.impl_SetFunctor_elementPairs a0).bind fun v3 =>
    iter (fun (s4 : (List (List Int)) × Int) next5 =>
      if decide (s4.2 < (v3.length : Int)) then
        (idx v3 s4.2).bind fun y9 =>
        iter (fun (s10 : (List (List Int)) × Int) next11 =>
          if decide (s10.2 < (v3.length : Int)) then
            (idx v3 s10.2).bind fun y15 =>
            (idx y9 0).bind fun y16 =>
            (idx y15 0).bind fun y17 =>
            (M.impl_Category_hom a0.Shape y16 y17).bind fun v18 =>
            iter (fun (s19 : (List (List Int)) × Int) next20 =>
              if decide (s19.2 < (v18.length : Int)) then
                (idx v18 s19.2).bind fun y24 =>
                (idx a0.Actions y24).bind fun y25 =>
                (idx y9 1).bind fun y26 =>
                (idx y25 y26).bind fun y27 =>
                (idx y15 1).bind fun y28 =>
                if y27 == y28 then
                  chk (s19.1.length + 1 ≤ lim) (
                    next20 (s19.1 ++ [[s4.2, s10.2, y24]], IntKind.i64.wrap (s19.2 + 1)))
                else
                  next20 (s19.1, IntKind.i64.wrap (s19.2 + 1))
              else
                next11 (s19.1, IntKind.i64.wrap (s10.2 + 1))) fuel (s10.1, 0)
          else
            next5 (s10.1, IntKind.i64.wrap (s4.2 + 1))) fuel (s4.1, 0)
      else
        if decide ((s4.1.length : Int) > 40) then
          some ((⟨⟨0, [], [], [], []⟩, [], [], [], []⟩ : Xgrothendieck), false)
        else
          (M.impl_places v3).bind fun v32 =>
          (M.impl_places s4.1).bind fun v33 =>
          (M.impl_column s4.1 0).bind fun v34 =>
          (M.impl_column s4.1 1).bind fun v35 =>
          iter (fun (s36 : (List Int) × Int) next37 =>
            if decide (s36.2 < (v3.length : Int)) then
              (idx v3 s36.2).bind fun y41 =>
              (idx y41 0).bind fun y42 =>
              (idx a0.Shape.Identity y42).bind fun y43 =>
              (M.impl_key ([[s36.2, s36.2, y43]] : List (List Int))).bind fun v44 =>
              chk (s36.1.length + (([(mget v44 v33).getD 0] : List Int).length) ≤ lim) (
                next37 (s36.1 ++ ([(mget v44 v33).getD 0] : List Int), IntKind.i64.wrap (s36.2 + 1)))
            else
              (M.impl_Category_table_grothendieck (⟨(⟨(v3.length : Int), v34, v35, s36.1, []⟩ : XCategory), v3, s4.1, v32, v33⟩ : Xgrothendieck) a0).bind fun v46 =>
              some (v46, true)) fuel (([] : List Int), 0)) fuel (([] : List (List Int)), 0)

def M.impl_ElementsProjection (a0 : XSetFunctor) : Option (XFunctor × Int) :=
  (M.impl_SetFunctor_isSetFunctor a0).bind fun v1 =>
  if v1 then
    (M.impl_SetFunctor_elementsCategory a0).bind fun v3 =>
    if v3.2 then
      (M.impl_column v3.1.objects_ 0).bind fun v5 =>
      (M.impl_column v3.1.arrows_ 2).bind fun v6 =>
      (M.impl_functor v3.1.category_ a0.Shape v5 v6).bind fun v7 =>
      some (v7, 0)
    else
      some ((⟨(⟨0, [], [], [], []⟩ : XCategory), (⟨0, [], [], [], []⟩ : XCategory), [], []⟩ : XFunctor), 3)
  else
    some ((⟨(⟨0, [], [], [], []⟩ : XCategory), (⟨0, [], [], [], []⟩ : XCategory), [], []⟩ : XFunctor), 1)

def M.laws_FnExactElementsProjection (a0 : XSetFunctor) : Option Bool :=
  (M.laws_szSetFunctor a0 1048576).bind fun v1 =>
  if decide (v1 < 0) then
    some true
  else
    (M.laws_toSetFunctor a0).bind fun v3 =>
    (M.spec_ElementsProjection v3).bind fun v4 =>
    (M.impl_ElementsProjection v3).bind fun v5 =>
    (M.laws_eqFunctor v5.1 v4.1).bind fun v6 =>
    if v6 then
      if v5.2 != v4.2 then
        some false
      else
        (M.laws_eqSetFunctor v3 v3).bind fun v9 =>
        if v9 then
          (M.laws_markSetFunctor v3 1).bind fun v11 =>
          if decide (v11.1 < 0) then
            some false
          else
            (M.laws_markFunctor v5.1 1).bind fun v13 =>
            (M.laws_heldFunctor v13.2 1).bind fun v14 =>
            if decide (v14 < 0) then
              some false
            else
              if v14 != v13.1 then
                some false
              else
                some true
        else
          some false
    else
      some false

end Go.Gx

/- Models of the functions. Printed by wip/gen. -/
namespace Go.Gx

end Go.Gx

/- Models of the functions. Printed by wip/gen. -/
namespace Go.Gx

structure XProfunctor where
  Source : XCategory
  Target : XCategory
  Sizes : List (List Int)
  Before : List (List (List Int))
  Behind : List (List (List Int))
def R.XProfunctor (x : XProfunctor) : Prop := (R.XCategory x.Source) ∧ (R.XCategory x.Target) ∧ (AllL (AllL I64) x.Sizes) ∧ (AllL (AllL (AllL I64)) x.Before) ∧ (AllL (AllL (AllL I64)) x.Behind)
end Go.Gx

/- Models of the functions. Printed by wip/gen. -/
namespace Go.Gx

end Go.Gx

/- Models of the functions. Printed by wip/gen. -/
namespace Go.Gx

end Go.Gx

/- Models of the functions. Printed by wip/gen. -/
namespace Go.Gx

end Go.Gx

/- Models of the functions. Printed by wip/gen. -/
namespace Go.Gx

end Go.Gx
