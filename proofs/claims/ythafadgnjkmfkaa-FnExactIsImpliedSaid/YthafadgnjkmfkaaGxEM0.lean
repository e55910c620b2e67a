/- Laid together: part 0. -/
import Derived.Test.YthafadgnjkmfkaaGxE2
/- Models of the functions. Printed by wip/gen. -/
namespace Go.Gx

structure XCategory where
  Objects : Int
  From : List Int
  To : List Int
  Identity : List Int
  Composites : List (List Int)
def eXCategory : Enc XCategory := (eA (eC eI XCategory.Objects) (eA (eC (eS eI) XCategory.From) (eA (eC (eS eI) XCategory.To) (eA (eC (eS eI) XCategory.Identity) (eC (eS (eS eI)) XCategory.Composites)))))
def R.XCategory (x : XCategory) : Prop := (I64 x.Objects) ∧ (AllL I64 x.From) ∧ (AllL I64 x.To) ∧ (AllL I64 x.Identity) ∧ (AllL (AllL I64) x.Composites)
theorem eXCategory_nb : EncNb eXCategory := (eA_nb (eC_nb eI_nb _) (eA_nb (eC_nb (eS_nb eI_nb) _) (eA_nb (eC_nb (eS_nb eI_nb) _) (eA_nb (eC_nb (eS_nb eI_nb) _) (eC_nb (eS_nb (eS_nb eI_nb)) _)))))

structure XFunctor where
  Source : XCategory
  Target : XCategory
  Objects : List Int
  Arrows : List Int
def R.XFunctor (x : XFunctor) : Prop := (R.XCategory x.Source) ∧ (R.XCategory x.Target) ∧ (AllL I64 x.Objects) ∧ (AllL I64 x.Arrows)
structure Xends where
  from_ : Int
  to_ : Int
def eXends : Enc Xends := (eA (eC eI Xends.from_) (eC eI Xends.to_))
def R.Xends (x : Xends) : Prop := (I64 x.from_) ∧ (I64 x.to_)
def M.laws_szInt64S (a0 : List Int) (a1 : Int) : Option Int :=
  if decide ((IntKind.i64.wrap (a1 - (a0.length : Int))) < 0) then
    some (-1)
  else
    some (IntKind.i64.wrap (a1 - (a0.length : Int)))

def M.laws_szInt64SS (a0 : List (List Int)) (a1 : Int) : Option Int :=
  if decide ((IntKind.i64.wrap (a1 - (a0.length : Int))) < 0) then
    some (-1)
  else
    iter (fun (s2 : Int × Int) next3 =>
      if decide (s2.2 < (a0.length : Int)) then
        (idx a0 s2.2).bind fun y7 =>
        (M.laws_szInt64S y7 s2.1).bind fun v8 =>
        if decide (v8 < 0) then
          some (-1)
        else
          next3 (v8, IntKind.i64.wrap (s2.2 + 1))
      else
        some s2.1) fuel (IntKind.i64.wrap (a1 - (a0.length : Int)), 0)

def M.laws_szCategory (a0 : XCategory) (a1 : Int) : Option Int :=
  (M.laws_szInt64S a0.From a1).bind fun v1 =>
  if decide (v1 < 0) then
    some (-1)
  else
    (M.laws_szInt64S a0.To v1).bind fun v3 =>
    if decide (v3 < 0) then
      some (-1)
    else
      (M.laws_szInt64S a0.Identity v3).bind fun v5 =>
      if decide (v5 < 0) then
        some (-1)
      else
        (M.laws_szInt64SS a0.Composites v5).bind fun v7 =>
        if decide (v7 < 0) then
          some (-1)
        else
          some v7

def M.spec_l01In (a0 : Int) (a1 : Int) (a2 : Int) : Option Bool :=
  if decide (a0 ≥ a1) then
    some (decide (a0 ≤ a2))
  else
    some false

def M.spec_l01Map (a0 : Int) (a1 : List Int) : Option Bool :=
  iter (fun (s1 : Int) next2 =>
    if decide (s1 < (a1.length : Int)) then
      (idx a1 s1).bind fun y6 =>
      if decide (y6 < 0) then
        some false
      else
        if decide (y6 ≥ a0) then
          some false
        else
          next2 (IntKind.i64.wrap (s1 + 1))
    else
      some true) fuel 0

def M.spec_l02Ends (a0 : List Int) (a1 : Int) (a2 : Int) : Option Bool :=
  if (a0.length : Int) == a1 then
    (M.spec_l01Map a2 a0).bind fun v2 =>
    some v2
  else
    some false

def M.spec_IsShape (a0 : XCategory) : Option Bool :=
  (M.spec_l01In a0.Objects 0 8).bind fun v1 =>
  if v1 then
    if decide ((a0.From.length : Int) > 40) then
      some false
    else
      (M.spec_l02Ends a0.From (a0.From.length : Int) a0.Objects).bind fun v4 =>
      if v4 then
        (M.spec_l02Ends a0.To (a0.From.length : Int) a0.Objects).bind fun v6 =>
        if v6 then
          if (a0.Composites.length : Int) != (a0.From.length : Int) then
            some false
          else
            if (a0.Identity.length : Int) != a0.Objects then
              some false
            else
              (M.spec_l01Map (a0.From.length : Int) a0.Identity).bind fun v10 =>
              if v10 then
                iter (fun (s12 : Int) next13 =>
                  if decide (s12 < a0.Objects) then
                    (idx a0.Identity s12).bind fun y17 =>
                    (idx a0.From y17).bind fun y18 =>
                    if y18 != s12 then
                      some false
                    else
                      (idx a0.To y17).bind fun y20 =>
                      if y20 != s12 then
                        some false
                      else
                        next13 (IntKind.i64.wrap (s12 + 1))
                  else
                    iter (fun (s22 : Int) next23 =>
                      if decide (s22 < (a0.From.length : Int)) then
                        (idx a0.Composites s22).bind fun y27 =>
                        if (y27.length : Int) != (a0.From.length : Int) then
                          some false
                        else
                          iter (fun (s29 : Int) next30 =>
                            if decide (s29 < (a0.From.length : Int)) then
                              (idx y27 s29).bind fun y34 =>
                              (idx a0.To s22).bind fun y35 =>
                              (idx a0.From s29).bind fun y36 =>
                              if y35 != y36 then
                                if y34 != (-1) then
                                  some false
                                else
                                  next30 (IntKind.i64.wrap (s29 + 1))
                              else
                                if decide (y34 < 0) then
                                  some false
                                else
                                  if decide (y34 ≥ (a0.From.length : Int)) then
                                    some false
                                  else
                                    (idx a0.From y34).bind fun y41 =>
                                    (idx a0.From s22).bind fun y42 =>
                                    if y41 != y42 then
                                      some false
                                    else
                                      (idx a0.To y34).bind fun y44 =>
                                      (idx a0.To s29).bind fun y45 =>
                                      if y44 != y45 then
                                        some false
                                      else
                                        next30 (IntKind.i64.wrap (s29 + 1))
                            else
                              next23 (IntKind.i64.wrap (s22 + 1))) fuel 0
                      else
                        some true) fuel 0) fuel 0
              else
                some false
        else
          some false
      else
        some false
  else
    some false

def M.spec_l02Fault (a0 : XCategory) : Option (Int × Int × Int × Int) :=
  iter (fun (s1 : Int) next2 =>
    if decide (s1 < (a0.From.length : Int)) then
      (idx a0.From s1).bind fun y6 =>
      (idx a0.Identity y6).bind fun y7 =>
      (idx a0.Composites y7).bind fun y8 =>
      (idx y8 s1).bind fun y9 =>
      if y9 != s1 then
        some (1, s1, 0, 0)
      else
        (idx a0.Composites s1).bind fun y11 =>
        (idx a0.To s1).bind fun y12 =>
        (idx a0.Identity y12).bind fun y13 =>
        (idx y11 y13).bind fun y14 =>
        if y14 != s1 then
          some (1, s1, 0, 0)
        else
          next2 (IntKind.i64.wrap (s1 + 1))
    else
      iter (fun (s16 : Int) next17 =>
        if decide (s16 < (a0.From.length : Int)) then
          iter (fun (s21 : Int) next22 =>
            if decide (s21 < (a0.From.length : Int)) then
              (idx a0.To s16).bind fun y26 =>
              (idx a0.From s21).bind fun y27 =>
              if y26 != y27 then
                next22 (IntKind.i64.wrap (s21 + 1))
              else
                iter (fun (s29 : Int) next30 =>
                  if decide (s29 < (a0.From.length : Int)) then
                    (idx a0.To s21).bind fun y34 =>
                    (idx a0.From s29).bind fun y35 =>
                    if y34 == y35 then
                      (idx a0.Composites s16).bind fun y37 =>
                      (idx y37 s21).bind fun y38 =>
                      (idx a0.Composites y38).bind fun y39 =>
                      (idx y39 s29).bind fun y40 =>
                      (idx a0.Composites s21).bind fun y41 =>
                      (idx y41 s29).bind fun y42 =>
                      (idx y37 y42).bind fun y43 =>
                      if y40 != y43 then
                        some (2, s16, s21, s29)
                      else
                        next30 (IntKind.i64.wrap (s29 + 1))
                    else
                      next30 (IntKind.i64.wrap (s29 + 1))
                  else
                    next22 (IntKind.i64.wrap (s21 + 1))) fuel 0
            else
              next17 (IntKind.i64.wrap (s16 + 1))) fuel 0
        else
          some (0, 0, 0, 0)) fuel 0) fuel 0

def M.spec_l02Is (a0 : XCategory) : Option Bool :=
  (M.spec_IsShape a0).bind fun v1 =>
  if v1 then
    (M.spec_l02Fault a0).bind fun v3 =>
    some (v3.1 == 0)
  else
    some false

def M.spec_l01Own (a0 : List Int) : Option (List Int) :=
  chk (([] : List Int).length + a0.length ≤ lim) (
    some (([] : List Int) ++ a0))

def M.spec_l01Own2 (a0 : List (List Int)) : Option (List (List Int)) :=
  iter (fun (s1 : (List (List Int)) × Int) next2 =>
    if decide (s1.2 < (a0.length : Int)) then
      (idx a0 s1.2).bind fun y6 =>
      (M.spec_l01Own y6).bind fun v7 =>
      chk (s1.1.length + 1 ≤ lim) (
        next2 (s1.1 ++ [v7], IntKind.i64.wrap (s1.2 + 1)))
    else
      some s1.1) fuel (([] : List (List Int)), 0)

def M.spec_l02Own (a0 : XCategory) : Option XCategory :=
  (M.spec_l01Own a0.From).bind fun v1 =>
  (M.spec_l01Own a0.To).bind fun v2 =>
  (M.spec_l01Own a0.Identity).bind fun v3 =>
  (M.spec_l01Own2 a0.Composites).bind fun v4 =>
  some (⟨a0.Objects, v1, v2, v3, v4⟩ : XCategory)

def M.laws_toInt64S (a0 : List Int) : Option (List Int) :=
  chk ((0 : Int) ≤ (a0.length : Int) ∧ (a0.length : Int) ≤ (lim : Int)) (
    iter (fun (s2 : (List Int) × Int) next3 =>
      if decide (s2.2 < (a0.length : Int)) then
        (idx a0 s2.2).bind fun y7 =>
        (idx s2.1 s2.2).bind fun _ =>
        next3 (s2.1.set s2.2.toNat y7, IntKind.i64.wrap (s2.2 + 1))
      else
        some s2.1) fuel ((List.replicate (a0.length : Int).toNat (0 : Int)), 0))

def M.laws_toInt64SS (a0 : List (List Int)) : Option (List (List Int)) :=
  chk ((0 : Int) ≤ (a0.length : Int) ∧ (a0.length : Int) ≤ (lim : Int)) (
    iter (fun (s2 : (List (List Int)) × Int) next3 =>
      if decide (s2.2 < (a0.length : Int)) then
        (idx a0 s2.2).bind fun y7 =>
        (M.laws_toInt64S y7).bind fun v8 =>
        (idx s2.1 s2.2).bind fun _ =>
        next3 (s2.1.set s2.2.toNat v8, IntKind.i64.wrap (s2.2 + 1))
      else
        some s2.1) fuel ((List.replicate (a0.length : Int).toNat ([] : List Int)), 0))

def M.laws_toCategory (a0 : XCategory) : Option XCategory :=
  (M.laws_toInt64S a0.From).bind fun v1 =>
  (M.laws_toInt64S a0.To).bind fun v2 =>
  (M.laws_toInt64S a0.Identity).bind fun v3 =>
  (M.laws_toInt64SS a0.Composites).bind fun v4 =>
  some (⟨a0.Objects, v1, v2, v3, v4⟩ : XCategory)

def M.impl_Category_arrows (a0 : XCategory) : Option Int :=
  some (a0.From.length : Int)

def M.impl_inRange (a0 : Int) (a1 : Int) (a2 : Int) : Option Bool :=
  if decide (a0 ≥ a1) then
    some (decide (a0 ≤ a2))
  else
    some false

def M.impl_within (a0 : List Int) (a1 : Int) : Option Bool :=
  iter (fun (s1 : Int) next2 =>
    if decide (s1 < (a0.length : Int)) then
      (idx a0 s1).bind fun y6 =>
      (M.impl_inRange y6 0 (IntKind.i64.wrap (a1 - 1))).bind fun v7 =>
      if v7 then
        next2 (IntKind.i64.wrap (s1 + 1))
      else
        some false
    else
      some true) fuel 0

def M.impl_Category_ends (a0 : XCategory) (a1 : Int) : Option Xends :=
  (idx a0.From a1).bind fun y1 =>
  (idx a0.To a1).bind fun y2 =>
  some (⟨y1, y2⟩ : Xends)

def M.impl_Category_isShape (a0 : XCategory) : Option Bool :=
  (M.impl_Category_arrows a0).bind fun v1 =>
  (M.impl_inRange a0.Objects 0 8).bind fun v2 =>
  if v2 then
    if decide (v1 > 40) then
      some false
    else
      if (a0.To.length : Int) != v1 then
        some false
      else
        (M.impl_within a0.From a0.Objects).bind fun v6 =>
        if v6 then
          (M.impl_within a0.To a0.Objects).bind fun v8 =>
          if v8 then
            if (a0.Identity.length : Int) != a0.Objects then
              some false
            else
              (M.impl_within a0.Identity v1).bind fun v11 =>
              if v11 then
                if (a0.Composites.length : Int) != v1 then
                  some false
                else
                  iter (fun (s14 : Int) next15 =>
                    if decide (s14 < (a0.Identity.length : Int)) then
                      (idx a0.Identity s14).bind fun y19 =>
                      (M.impl_Category_ends a0 y19).bind fun v20 =>
                      if ((v20.from_ == s14) && (v20.to_ == s14)) == false then
                        some false
                      else
                        next15 (IntKind.i64.wrap (s14 + 1))
                    else
                      iter (fun (s22 : Int) next23 =>
                        if decide (s22 < (a0.Composites.length : Int)) then
                          (idx a0.Composites s22).bind fun y27 =>
                          if (y27.length : Int) != v1 then
                            some false
                          else
                            iter (fun (s29 : Int) next30 =>
                              if decide (s29 < (y27.length : Int)) then
                                (idx y27 s29).bind fun y34 =>
                                (idx a0.To s22).bind fun y35 =>
                                (idx a0.From s29).bind fun y36 =>
                                if y35 != y36 then
                                  if y34 != (-1) then
                                    some false
                                  else
                                    next30 (IntKind.i64.wrap (s29 + 1))
                                else
                                  (M.impl_inRange y34 0 (IntKind.i64.wrap (v1 - 1))).bind fun v39 =>
                                  if v39 then
                                    (M.impl_Category_ends a0 y34).bind fun v41 =>
                                    (idx a0.From s22).bind fun y42 =>
                                    (idx a0.To s29).bind fun y43 =>
                                    if ((v41.from_ == y42) && (v41.to_ == y43)) == false then
                                      some false
                                    else
                                      next30 (IntKind.i64.wrap (s29 + 1))
                                  else
                                    some false
                              else
                                next23 (IntKind.i64.wrap (s22 + 1))) fuel 0
                        else
                          some true) fuel 0) fuel 0
              else
                some false
          else
            some false
        else
          some false
  else
    some false

def M.impl_Category_then (a0 : XCategory) (a1 : Int) (a2 : Int) : Option Int :=
  (idx a0.Composites a1).bind fun y1 =>
  (idx y1 a2).bind fun y2 =>
  some y2

def M.impl_Category_fault (a0 : XCategory) : Option (Int × Int × Int × Int) :=
  (M.impl_Category_arrows a0).bind fun v1 =>
  iter (fun (s2 : Int) next3 =>
    if decide (s2 < v1) then
      (idx a0.From s2).bind fun y7 =>
      (idx a0.Identity y7).bind fun y8 =>
      (M.impl_Category_then a0 y8 s2).bind fun v9 =>
      if v9 != s2 then
        some (1, s2, 0, 0)
      else
        (idx a0.To s2).bind fun y11 =>
        (idx a0.Identity y11).bind fun y12 =>
        (M.impl_Category_then a0 s2 y12).bind fun v13 =>
        if v13 != s2 then
          some (1, s2, 0, 0)
        else
          next3 (IntKind.i64.wrap (s2 + 1))
    else
      iter (fun (s15 : Int) next16 =>
        if decide (s15 < v1) then
          iter (fun (s20 : Int) next21 =>
            if decide (s20 < v1) then
              (M.impl_Category_then a0 s15 s20).bind fun v25 =>
              if decide (v25 < 0) then
                next21 (IntKind.i64.wrap (s20 + 1))
              else
                iter (fun (s27 : Int) next28 =>
                  if decide (s27 < v1) then
                    (M.impl_Category_then a0 s20 s27).bind fun v32 =>
                    if decide (v32 ≥ 0) then
                      (M.impl_Category_then a0 v25 s27).bind fun v34 =>
                      (M.impl_Category_then a0 s15 v32).bind fun v35 =>
                      if v34 != v35 then
                        some (2, s15, s20, s27)
                      else
                        next28 (IntKind.i64.wrap (s27 + 1))
                    else
                      next28 (IntKind.i64.wrap (s27 + 1))
                  else
                    next21 (IntKind.i64.wrap (s20 + 1))) fuel 0
            else
              next16 (IntKind.i64.wrap (s15 + 1))) fuel 0
        else
          some (0, 0, 0, 0)) fuel 0) fuel 0

def M.impl_Category_isCategory (a0 : XCategory) : Option Bool :=
  (M.impl_Category_isShape a0).bind fun v1 =>
  if v1 then
    (M.impl_Category_fault a0).bind fun v3 =>
    some (v3.1 == 0)
  else
    some false

def M.impl_clone (a0 : List Int) : Option (List Int) :=
  chk (([] : List Int).length + a0.length ≤ lim) (
    some (([] : List Int) ++ a0))

def M.impl_clones (a0 : List (List Int)) : Option (List (List Int)) :=
  chk ((0 : Int) ≤ (a0.length : Int) ∧ (a0.length : Int) ≤ (lim : Int)) (
    iter (fun (s2 : (List (List Int)) × Int) next3 =>
      if decide (s2.2 < (a0.length : Int)) then
        (idx a0 s2.2).bind fun y7 =>
        (M.impl_clone y7).bind fun v8 =>
        chk (s2.1.length + 1 ≤ lim) (
          next3 (s2.1 ++ [v8], IntKind.i64.wrap (s2.2 + 1)))
      else
        some s2.1) fuel (([] : List (List Int)), 0))

def M.impl_Category_copy (a0 : XCategory) : Option XCategory :=
  (M.impl_clone a0.From).bind fun v1 =>
  (M.impl_clone a0.To).bind fun v2 =>
  (M.impl_clone a0.Identity).bind fun v3 =>
  (M.impl_clones a0.Composites).bind fun v4 =>
  some (⟨a0.Objects, v1, v2, v3, v4⟩ : XCategory)

def M.laws_eqInt64S (a0 : List Int) (a1 : List Int) : Option Bool :=
  if (a0.length : Int) != (a1.length : Int) then
    some false
  else
    iter (fun (s2 : Int) next3 =>
      if decide (s2 < (a0.length : Int)) then
        (idx a0 s2).bind fun y7 =>
        (idx a1 s2).bind fun y8 =>
        if y7 != y8 then
          some false
        else
          next3 (IntKind.i64.wrap (s2 + 1))
      else
        some true) fuel 0

def M.laws_eqInt64SS (a0 : List (List Int)) (a1 : List (List Int)) : Option Bool :=
  if (a0.length : Int) != (a1.length : Int) then
    some false
  else
    iter (fun (s2 : Int) next3 =>
      if decide (s2 < (a0.length : Int)) then
        (idx a0 s2).bind fun y7 =>
        (idx a1 s2).bind fun y8 =>
        (M.laws_eqInt64S y7 y8).bind fun v9 =>
        if v9 then
          next3 (IntKind.i64.wrap (s2 + 1))
        else
          some false
      else
        some true) fuel 0

def M.laws_eqCategory (a0 : XCategory) (a1 : XCategory) : Option Bool :=
  if a0.Objects != a1.Objects then
    some false
  else
    (M.laws_eqInt64S a0.From a1.From).bind fun v2 =>
    if v2 then
      (M.laws_eqInt64S a0.To a1.To).bind fun v4 =>
      if v4 then
        (M.laws_eqInt64S a0.Identity a1.Identity).bind fun v6 =>
        if v6 then
          (M.laws_eqInt64SS a0.Composites a1.Composites).bind fun v8 =>
          if v8 then
            some true
          else
            some false
        else
          some false
      else
        some false
    else
      some false

end Go.Gx

/- Models of the functions. Printed by wip/gen. -/
namespace Go.Gx

structure XTransformation where
  Source : XFunctor
  Target : XFunctor
  Components : List Int
def R.XTransformation (x : XTransformation) : Prop := (R.XFunctor x.Source) ∧ (R.XFunctor x.Target) ∧ (AllL I64 x.Components)
end Go.Gx

/- Models of the functions. Printed by wip/gen. -/
namespace Go.Gx

def M.spec_l01Same (a0 : List Int) (a1 : List Int) : Option Bool :=
  if (a0.length : Int) != (a1.length : Int) then
    some false
  else
    iter (fun (s2 : Int) next3 =>
      if decide (s2 < (a0.length : Int)) then
        (idx a0 s2).bind fun y7 =>
        (idx a1 s2).bind fun y8 =>
        if y7 != y8 then
          some false
        else
          next3 (IntKind.i64.wrap (s2 + 1))
      else
        some true) fuel 0

end Go.Gx

/- Models of the functions. Printed by wip/gen. -/
namespace Go.Gx

def M.impl_numbers (a0 : Int) : Option (List Int) :=
  chk ((0 : Int) ≤ a0 ∧ a0 ≤ (lim : Int)) (
    iter (fun (s2 : (List Int) × Int) next3 =>
      if decide (s2.2 < ((List.replicate a0.toNat (0 : Int)).length : Int)) then
        (idx s2.1 s2.2).bind fun _ =>
        next3 (s2.1.set s2.2.toNat s2.2, IntKind.i64.wrap (s2.2 + 1))
      else
        some s2.1) fuel ((List.replicate a0.toNat (0 : Int)), 0))

def M.spec_l02Hom (a0 : XCategory) (a1 : Int) (a2 : Int) : Option (List Int) :=
  iter (fun (s1 : (List Int) × Int) next2 =>
    if decide (s1.2 < (a0.From.length : Int)) then
      (idx a0.From s1.2).bind fun y6 =>
      if y6 == a1 then
        (idx a0.To s1.2).bind fun y8 =>
        if y8 == a2 then
          chk (s1.1.length + (([s1.2] : List Int).length) ≤ lim) (
            next2 (s1.1 ++ ([s1.2] : List Int), IntKind.i64.wrap (s1.2 + 1)))
        else
          next2 (s1.1, IntKind.i64.wrap (s1.2 + 1))
      else
        next2 (s1.1, IntKind.i64.wrap (s1.2 + 1))
    else
      some s1.1) fuel (([] : List Int), 0)

def M.spec_l01Index (a0 : List Int) (a1 : Int) : Option Int :=
  iter (fun (s1 : Int) next2 =>
    if decide (s1 < (a0.length : Int)) then
      (idx a0 s1).bind fun y6 =>
      if y6 == a1 then
        some s1
      else
        next2 (IntKind.i64.wrap (s1 + 1))
    else
      some (-1)) fuel 0

def M.spec_l02Then (a0 : XCategory) (a1 : Int) (a2 : Int) : Option Int :=
  (idx a0.Composites a1).bind fun y1 =>
  (idx y1 a2).bind fun y2 =>
  some y2

end Go.Gx

/- Models of the functions. Printed by wip/gen. -/
namespace Go.Gx

end Go.Gx

/- Models of the functions. Printed by wip/gen. -/
namespace Go.Gx

def M.impl_Category_outOf (a0 : XCategory) (a1 : Int) : Option (List Int) :=
  iter (fun (s1 : (List Int) × Int) next2 =>
    if decide (s1.2 < (a0.From.length : Int)) then
      (idx a0.From s1.2).bind fun y6 =>
      if y6 == a1 then
        chk (s1.1.length + (([s1.2] : List Int).length) ≤ lim) (
          next2 (s1.1 ++ ([s1.2] : List Int), IntKind.i64.wrap (s1.2 + 1)))
      else
        next2 (s1.1, IntKind.i64.wrap (s1.2 + 1))
    else
      some s1.1) fuel (([] : List Int), 0)

end Go.Gx

/- Models of the functions. Printed by wip/gen. -/
namespace Go.Gx

def M.spec_l01Classes (a0 : List Int) : Option (List Int) :=
  iter (fun (s1 : (List Int) × (List Int) × Int) next2 =>
    if decide (s1.2.2 < (a0.length : Int)) then
      (idx a0 s1.2.2).bind fun y6 =>
      (M.spec_l01Index s1.2.1 y6).bind fun v7 =>
      if decide (v7 < 0) then
        chk (s1.2.1.length + (([y6] : List Int).length) ≤ lim) (
          chk (s1.1.length + (([(s1.2.1.length : Int)] : List Int).length) ≤ lim) (
            next2 (s1.1 ++ ([(s1.2.1.length : Int)] : List Int), s1.2.1 ++ ([y6] : List Int), IntKind.i64.wrap (s1.2.2 + 1))))
      else
        chk (s1.1.length + (([v7] : List Int).length) ≤ lim) (
          next2 (s1.1 ++ ([v7] : List Int), s1.2.1, IntKind.i64.wrap (s1.2.2 + 1)))
    else
      some s1.1) fuel (([] : List Int), ([] : List Int), 0)

def M.impl_normal (a0 : List Int) : Option (List Int) :=
  chk ((0 : Int) ≤ (a0.length : Int) ∧ (a0.length : Int) ≤ (lim : Int)) (
    iter (fun (s2 : (List (Int × Int)) × (List Int) × Int) next3 =>
      if decide (s2.2.2 < (a0.length : Int)) then
        (idx a0 s2.2.2).bind fun y7 =>
        if (mget y7 s2.1).isSome then
          (idx s2.2.1 s2.2.2).bind fun _ =>
          next3 (s2.1, s2.2.1.set s2.2.2.toNat ((mget y7 s2.1).getD 0), IntKind.i64.wrap (s2.2.2 + 1))
        else
          (idx s2.2.1 s2.2.2).bind fun _ =>
          next3 (mput y7 (s2.1.length : Int) s2.1, s2.2.1.set s2.2.2.toNat (s2.1.length : Int), IntKind.i64.wrap (s2.2.2 + 1))
      else
        some s2.2.1) fuel (([] : List (Int × Int)), (List.replicate (a0.length : Int).toNat (0 : Int)), 0))

def M.impl_partition_classes (a0 : List Int) : Option Int :=
  iter (fun (s1 : Int × Int) next2 =>
    if decide (s1.2 < (a0.length : Int)) then
      (idx a0 s1.2).bind fun y6 =>
      next2 (if (IntKind.i64.wrap (y6 + 1)) > s1.1 then (IntKind.i64.wrap (y6 + 1)) else s1.1, IntKind.i64.wrap (s1.2 + 1))
    else
      some s1.1) fuel (0, 0)

end Go.Gx

/- Models of the functions. Printed by wip/gen. -/
namespace Go.Gx

def M.spec_l01Join (a0 : Int) (a1 : List (List Int)) : Option (List Int) :=
  iter (fun (s1 : (List Int) × Int) next2 =>
    if decide (s1.2 < a0) then
      chk (s1.1.length + (([s1.2] : List Int).length) ≤ lim) (
        next2 (s1.1 ++ ([s1.2] : List Int), IntKind.i64.wrap (s1.2 + 1)))
    else
      iter (fun (s7 : (List Int) × Int) next8 =>
        if decide (s7.2 < (a1.length : Int)) then
          (idx a1 s7.2).bind fun y12 =>
          (idx y12 0).bind fun y13 =>
          (idx s7.1 y13).bind fun y14 =>
          (idx y12 1).bind fun y15 =>
          (idx s7.1 y15).bind fun y16 =>
          iter (fun (s17 : (List Int) × Int) next18 =>
            if decide (s17.2 < (s17.1.length : Int)) then
              if y14 != y16 then
                (idx s17.1 s17.2).bind fun y23 =>
                if y23 == y16 then
                  next18 (s17.1.set s17.2.toNat y14, IntKind.i64.wrap (s17.2 + 1))
                else
                  next18 (s17.1, IntKind.i64.wrap (s17.2 + 1))
              else
                next8 (s17.1, IntKind.i64.wrap (s7.2 + 1))
            else
              next8 (s17.1, IntKind.i64.wrap (s7.2 + 1))) fuel (s7.1, 0)
        else
          (M.spec_l01Classes s7.1).bind fun v25 =>
          some v25) fuel (s1.1, 0)) fuel (([] : List Int), 0)

def M.impl_joinerOf (a0 : Int) : Option (List Int) :=
  (M.impl_numbers a0).bind fun v1 =>
  some v1

def M.impl_joiner_root (a0 : List Int) (a1 : Int) : Option (Int × (List Int)) :=
  iter (fun (s1 : (List Int) × Int) next2 =>
    (idx s1.1 s1.2).bind fun y5 =>
    if y5 != s1.2 then
      (idx s1.1 y5).bind fun y7 =>
      (idx (s1.1.set s1.2.toNat y7) s1.2).bind fun y8 =>
      next2 (s1.1.set s1.2.toNat y7, y8)
    else
      some (s1.2, s1.1)) fuel (a0, a1)

theorem M.len_impl_joiner_root {a0 : List Int} {a1 : Int} {r : Int × (List Int)} (h : M.impl_joiner_root a0 a1 = some r) : a0.length = r.2.length := by
  unfold M.impl_joiner_root at h
  refine iter_pres (fun s => s.1.length = a0.length) (fun r => a0.length = r.2.length) ?_ _ _ _ rfl h
  intro s next r hs hn h
  obtain ⟨_, _, h⟩ := bind_some' h
  split at h
  · obtain ⟨_, _, h⟩ := bind_some' h
    obtain ⟨_, _, h⟩ := bind_some' h
    exact hn _ (by simpa using hs) h
  · obtain rfl := Option.some.inj h; exact hs.symm

def M.impl_joiner_join (a0 : List Int) (a1 : Int) (a2 : Int) : Option (Bool × (List Int)) :=
  (M.impl_joiner_root a0 a1).bind fun v1 =>
  (M.impl_joiner_root v1.2 a2).bind fun v2 =>
  (idx v2.2 (if v2.1 > v1.1 then v2.1 else v1.1)).bind fun _ =>
  some (v1.1 != v2.1, v2.2.set (if v2.1 > v1.1 then v2.1 else v1.1).toNat (if v2.1 < v1.1 then v2.1 else v1.1))

theorem M.len_impl_joiner_join {a0 : List Int} {a1 a2 : Int} {r : Bool × (List Int)} (h : M.impl_joiner_join a0 a1 a2 = some r) : a0.length = r.2.length := by
  unfold M.impl_joiner_join at h
  obtain ⟨_, h1, h⟩ := bind_some' h
  obtain ⟨_, h2, h⟩ := bind_some' h
  obtain ⟨_, _, h⟩ := bind_some' h
  obtain rfl := Option.some.inj h
  have l1 := M.len_impl_joiner_root h1
  have l2 := M.len_impl_joiner_root h2
  rw [List.length_set]; omega

end Go.Gx

/- Models of the functions. Printed by wip/gen. -/
namespace Go.Gx

structure XSetFunctor where
  Shape : XCategory
  Sizes : List Int
  Actions : List (List Int)
def eXSetFunctor : Enc XSetFunctor := (eA (eC eXCategory XSetFunctor.Shape) (eA (eC (eS eI) XSetFunctor.Sizes) (eC (eS (eS eI)) XSetFunctor.Actions)))
def R.XSetFunctor (x : XSetFunctor) : Prop := (R.XCategory x.Shape) ∧ (AllL I64 x.Sizes) ∧ (AllL (AllL I64) x.Actions)
theorem eXSetFunctor_nb : EncNb eXSetFunctor := (eA_nb (eC_nb eXCategory_nb _) (eA_nb (eC_nb (eS_nb eI_nb) _) (eC_nb (eS_nb (eS_nb eI_nb)) _)))

structure XSetMap where
  Source : XSetFunctor
  Target : XSetFunctor
  Parts : List (List Int)
def R.XSetMap (x : XSetMap) : Prop := (R.XSetFunctor x.Source) ∧ (R.XSetFunctor x.Target) ∧ (AllL (AllL I64) x.Parts)
end Go.Gx

/- Models of the functions. Printed by wip/gen. -/
namespace Go.Gx

def M.spec_l02Arrow (a0 : XCategory) (a1 : Int) : Option Bool :=
  if decide (a1 ≥ 0) then
    some (decide (a1 < (a0.From.length : Int)))
  else
    some false

end Go.Gx

/- Models of the functions. Printed by wip/gen. -/
namespace Go.Gx

def M.spec_l21Made (a0 : XSetFunctor) : Option Int :=
  iter (fun (s1 : Int) next2 =>
    if decide (s1 < (a0.Sizes.length : Int)) then
      (idx a0.Sizes s1).bind fun y6 =>
      if decide (y6 > 16) then
        some 3
      else
        next2 (IntKind.i64.wrap (s1 + 1))
    else
      some 0) fuel 0

def M.impl_fitting (a0 : List Int) : Option Bool :=
  (M.impl_within a0 17).bind fun v1 =>
  some v1

end Go.Gx

/- Models of the functions. Printed by wip/gen. -/
namespace Go.Gx

structure XTerm where
  Variable : Int
  Arrow : Int
def eXTerm : Enc XTerm := (eA (eC eI XTerm.Variable) (eC eI XTerm.Arrow))
theorem eXTerm_ok : EncOk eXTerm := (eA_ok (eC_ok eI_ok _) (eC_ok eI_ok _))
def R.XTerm (x : XTerm) : Prop := (I64 x.Variable) ∧ (I64 x.Arrow)
structure XQuery where
  Variables : List Int
  Left : List XTerm
  Right : List XTerm
  Output : List Int
def eXQuery : Enc XQuery := (eA (eC (eS eI) XQuery.Variables) (eA (eC (eS eXTerm) XQuery.Left) (eA (eC (eS eXTerm) XQuery.Right) (eC (eS eI) XQuery.Output))))
def R.XQuery (x : XQuery) : Prop := (AllL I64 x.Variables) ∧ (AllL R.XTerm x.Left) ∧ (AllL R.XTerm x.Right) ∧ (AllL I64 x.Output)
structure Ximpl_pair_int64 where
  first_ : Int
  second_ : Int
def eXimpl_pair_int64 : Enc Ximpl_pair_int64 := (eA (eC eI Ximpl_pair_int64.first_) (eC eI Ximpl_pair_int64.second_))
theorem eXimpl_pair_int64_ok : EncOk eXimpl_pair_int64 := (eA_ok (eC_ok eI_ok _) (eC_ok eI_ok _))
def R.Ximpl_pair_int64 (x : Ximpl_pair_int64) : Prop := (I64 x.first_) ∧ (I64 x.second_)
structure Xcanonical where
  q_ : XQuery
  sets_ : XSetFunctor
  class_ : List ((Int × Int) × Int)
def eXcanonical : Enc Xcanonical := (eA (eC (eP eXQuery) Xcanonical.q_) (eA (eC eXSetFunctor Xcanonical.sets_) (eC (eM kP vI) Xcanonical.class_)))
def R.Xcanonical (x : Xcanonical) : Prop := ((fun _ => True) x.q_) ∧ (R.XSetFunctor x.sets_) ∧ ((fun _ => True) x.class_)

def M.laws_szTermS (a0 : List XTerm) (a1 : Int) : Option Int :=
  if decide ((IntKind.i64.wrap (a1 - (a0.length : Int))) < 0) then
    some (-1)
  else
    some (IntKind.i64.wrap (a1 - (a0.length : Int)))

def M.laws_szQuery (a0 : XQuery) (a1 : Int) : Option Int :=
  (M.laws_szInt64S a0.Variables a1).bind fun v1 =>
  if decide (v1 < 0) then
    some (-1)
  else
    (M.laws_szTermS a0.Left v1).bind fun v3 =>
    if decide (v3 < 0) then
      some (-1)
    else
      (M.laws_szTermS a0.Right v3).bind fun v5 =>
      if decide (v5 < 0) then
        some (-1)
      else
        (M.laws_szInt64S a0.Output v5).bind fun v7 =>
        if decide (v7 < 0) then
          some (-1)
        else
          some v7

def M.laws_toTerm (a0 : XTerm) : Option XTerm :=
  some a0

def M.laws_toTermS (a0 : List XTerm) : Option (List XTerm) :=
  chk ((0 : Int) ≤ (a0.length : Int) ∧ (a0.length : Int) ≤ (lim : Int)) (
    iter (fun (s2 : (List XTerm) × Int) next3 =>
      if decide (s2.2 < (a0.length : Int)) then
        (idx a0 s2.2).bind fun y7 =>
        (M.laws_toTerm y7).bind fun v8 =>
        (idx s2.1 s2.2).bind fun _ =>
        next3 (s2.1.set s2.2.toNat v8, IntKind.i64.wrap (s2.2 + 1))
      else
        some s2.1) fuel ((List.replicate (a0.length : Int).toNat (⟨0, 0⟩ : XTerm)), 0))

def M.laws_toQuery (a0 : XQuery) : Option XQuery :=
  (M.laws_toInt64S a0.Variables).bind fun v1 =>
  (M.laws_toTermS a0.Left).bind fun v2 =>
  (M.laws_toTermS a0.Right).bind fun v3 =>
  (M.laws_toInt64S a0.Output).bind fun v4 =>
  some (⟨v1, v2, v3, v4⟩ : XQuery)

def M.laws_eqTerm (a0 : XTerm) (a1 : XTerm) : Option Bool :=
  if a0.Variable != a1.Variable then
    some false
  else
    if a0.Arrow != a1.Arrow then
      some false
    else
      some true

def M.laws_eqTermS (a0 : List XTerm) (a1 : List XTerm) : Option Bool :=
  if (a0.length : Int) != (a1.length : Int) then
    some false
  else
    iter (fun (s2 : Int) next3 =>
      if decide (s2 < (a0.length : Int)) then
        (idx a0 s2).bind fun y7 =>
        (idx a1 s2).bind fun y8 =>
        (M.laws_eqTerm y7 y8).bind fun v9 =>
        if v9 then
          next3 (IntKind.i64.wrap (s2 + 1))
        else
          some false
      else
        some true) fuel 0

def M.laws_eqQuery (a0 : XQuery) (a1 : XQuery) : Option Bool :=
  (M.laws_eqInt64S a0.Variables a1.Variables).bind fun v1 =>
  if v1 then
    (M.laws_eqTermS a0.Left a1.Left).bind fun v3 =>
    if v3 then
      (M.laws_eqTermS a0.Right a1.Right).bind fun v5 =>
      if v5 then
        (M.laws_eqInt64S a0.Output a1.Output).bind fun v7 =>
        if v7 then
          some true
        else
          some false
      else
        some false
    else
      some false
  else
    some false

def M.spec_l38Term (a0 : XCategory) (a1 : List Int) (a2 : XTerm) : Option Bool :=
  (M.spec_l01In a2.Variable 0 (IntKind.i64.wrap ((a1.length : Int) - 1))).bind fun v1 =>
  if v1 then
    (M.spec_l02Arrow a0 a2.Arrow).bind fun v3 =>
    if v3 then
      (idx a0.From a2.Arrow).bind fun y5 =>
      (idx a1 a2.Variable).bind fun y6 =>
      some (y5 == y6)
    else
      some false
  else
    some false

def M.spec_IsQuery (a0 : XCategory) (a1 : XQuery) : Option Bool :=
  (M.spec_l02Is a0).bind fun v1 =>
  if v1 then
    if decide ((a1.Variables.length : Int) > 4) then
      some false
    else
      (M.spec_l01Map a0.Objects a1.Variables).bind fun v4 =>
      if v4 then
        if decide ((a1.Left.length : Int) > 6) then
          some false
        else
          if (a1.Right.length : Int) != (a1.Left.length : Int) then
            some false
          else
            if decide ((a1.Output.length : Int) > 4) then
              some false
            else
              (M.spec_l01Map (a1.Variables.length : Int) a1.Output).bind fun v9 =>
              if v9 then
                iter (fun (s11 : Int) next12 =>
                  if decide (s11 < (a1.Left.length : Int)) then
                    (idx a1.Left s11).bind fun y16 =>
                    (M.spec_l38Term a0 a1.Variables y16).bind fun v17 =>
                    if v17 then
                      (idx a1.Right s11).bind fun y19 =>
                      (M.spec_l38Term a0 a1.Variables y19).bind fun v20 =>
                      if v20 then
                        (idx a0.To y16.Arrow).bind fun y22 =>
                        (idx a0.To y19.Arrow).bind fun y23 =>
                        if y22 != y23 then
                          some false
                        else
                          next12 (IntKind.i64.wrap (s11 + 1))
                      else
                        some false
                    else
                      some false
                  else
                    some true) fuel 0
              else
                some false
      else
        some false
  else
    some false

def M.spec_l05Place (a0 : List (List Int)) (a1 : List Int) : Option Int :=
  iter (fun (s1 : Int) next2 =>
    if decide (s1 < (a0.length : Int)) then
      (idx a0 s1).bind fun y6 =>
      (M.spec_l01Same y6 a1).bind fun v7 =>
      if v7 then
        some s1
      else
        next2 (IntKind.i64.wrap (s1 + 1))
    else
      some (-1)) fuel 0

def M.spec_l19Free (a0 : XCategory) (a1 : List Int) : Option XSetFunctor :=
  chk ((0 : Int) ≤ a0.Objects ∧ a0.Objects ≤ (lim : Int)) (
    iter (fun (s2 : (List (List (List Int))) × Int) next3 =>
      if decide (s2.2 < (a1.length : Int)) then
        iter (fun (s7 : (List (List (List Int))) × Int) next8 =>
          if decide (s7.2 < (a0.From.length : Int)) then
            (idx a0.From s7.2).bind fun y12 =>
            (idx a1 s2.2).bind fun y13 =>
            if y12 == y13 then
              (idx a0.To s7.2).bind fun y15 =>
              (idx s7.1 y15).bind fun y16 =>
              chk (y16.length + 1 ≤ lim) (
                next8 (s7.1.set y15.toNat (y16 ++ [[s2.2, s7.2]]), IntKind.i64.wrap (s7.2 + 1)))
            else
              next8 (s7.1, IntKind.i64.wrap (s7.2 + 1))
          else
            next3 (s7.1, IntKind.i64.wrap (s2.2 + 1))) fuel (s2.1, 0)
      else
        (M.spec_l02Own a0).bind fun v18 =>
        iter (fun (s19 : (List Int) × Int) next20 =>
          if decide (s19.2 < (s2.1.length : Int)) then
            (idx s2.1 s19.2).bind fun y24 =>
            chk (s19.1.length + (([(y24.length : Int)] : List Int).length) ≤ lim) (
              next20 (s19.1 ++ ([(y24.length : Int)] : List Int), IntKind.i64.wrap (s19.2 + 1)))
          else
            iter (fun (s26 : (List (List Int)) × Int) next27 =>
              if decide (s26.2 < (a0.From.length : Int)) then
                (idx a0.From s26.2).bind fun y31 =>
                (idx s2.1 y31).bind fun y32 =>
                (idx a0.To s26.2).bind fun y33 =>
                (idx s2.1 y33).bind fun y34 =>
                iter (fun (s35 : (List Int) × Int) next36 =>
                  if decide (s35.2 < (y32.length : Int)) then
                    (idx y32 s35.2).bind fun y40 =>
                    (idx y40 0).bind fun y41 =>
                    (idx y40 1).bind fun y42 =>
                    (M.spec_l02Then a0 y42 s26.2).bind fun v43 =>
                    (M.spec_l05Place y34 ([y41, v43] : List Int)).bind fun v44 =>
                    chk (s35.1.length + (([v44] : List Int).length) ≤ lim) (
                      next36 (s35.1 ++ ([v44] : List Int), IntKind.i64.wrap (s35.2 + 1)))
                  else
                    chk (s26.1.length + 1 ≤ lim) (
                      next27 (s26.1 ++ [s35.1], IntKind.i64.wrap (s26.2 + 1)))) fuel (([] : List Int), 0)
              else
                some (⟨v18, s19.1, s26.1⟩ : XSetFunctor)) fuel (([] : List (List Int)), 0)) fuel (([] : List Int), 0)) fuel ((List.replicate a0.Objects.toNat ([] : List (List Int))), 0))

def M.spec_l01Pairs (a0 : List Int) : Option (List (List Int)) :=
  iter (fun (s1 : (List (List Int)) × Int) next2 =>
    if decide (s1.2 < (a0.length : Int)) then
      (idx a0 s1.2).bind fun y6 =>
      (M.spec_l01Index a0 y6).bind fun v7 =>
      chk (s1.1.length + 1 ≤ lim) (
        next2 (s1.1 ++ [[v7, s1.2]], IntKind.i64.wrap (s1.2 + 1)))
    else
      some s1.1) fuel (([] : List (List Int)), 0)

def M.spec_l21Quotient (a0 : XSetFunctor) (a1 : List (List Int)) : Option XSetFunctor :=
  (M.spec_l02Own a0.Shape).bind fun v1 =>
  iter (fun (s2 : (List Int) × Int) next3 =>
    if decide (s2.2 < (a1.length : Int)) then
      iter (fun (s7 : Int × Int) next8 =>
        (idx a1 s2.2).bind fun y11 =>
        if decide (s7.2 < (y11.length : Int)) then
          (idx y11 s7.2).bind fun y13 =>
          next8 (if (IntKind.i64.wrap (y13 + 1)) > s7.1 then (IntKind.i64.wrap (y13 + 1)) else s7.1, IntKind.i64.wrap (s7.2 + 1))
        else
          chk (s2.1.length + (([s7.1] : List Int).length) ≤ lim) (
            next3 (s2.1 ++ ([s7.1] : List Int), IntKind.i64.wrap (s2.2 + 1)))) fuel (0, 0)
    else
      iter (fun (s15 : (List (List Int)) × Int) next16 =>
        if decide (s15.2 < (a0.Actions.length : Int)) then
          (idx a0.Shape.From s15.2).bind fun y20 =>
          (idx a0.Shape.To s15.2).bind fun y21 =>
          (idx s2.1 y20).bind fun y22 =>
          chk ((0 : Int) ≤ y22 ∧ y22 ≤ (lim : Int)) (
            iter (fun (s24 : (List Int) × Int) next25 =>
              (idx a1 y20).bind fun y28 =>
              if decide (s24.2 < (y28.length : Int)) then
                (idx y28 s24.2).bind fun y30 =>
                (idx a1 y21).bind fun y31 =>
                (idx a0.Actions s15.2).bind fun y32 =>
                (idx y32 s24.2).bind fun y33 =>
                (idx y31 y33).bind fun y34 =>
                (idx s24.1 y30).bind fun _ =>
                next25 (s24.1.set y30.toNat y34, IntKind.i64.wrap (s24.2 + 1))
              else
                chk (s15.1.length + 1 ≤ lim) (
                  next16 (s15.1 ++ [s24.1], IntKind.i64.wrap (s15.2 + 1)))) fuel ((List.replicate y22.toNat (0 : Int)), 0))
        else
          some (⟨v1, s2.1, s15.1⟩ : XSetFunctor)) fuel (([] : List (List Int)), 0)) fuel (([] : List Int), 0)

def M.spec_l38Pair (a0 : XCategory) (a1 : XQuery) (a2 : XTerm) : Option Int :=
  (idx a0.To a2.Arrow).bind fun y1 =>
  iter (fun (s2 : Int × Int) next3 =>
    if decide (s2.2 < a2.Variable) then
      (idx a1.Variables s2.2).bind fun y7 =>
      (M.spec_l02Hom a0 y7 y1).bind fun v8 =>
      next3 (IntKind.i64.wrap (s2.1 + (v8.length : Int)), IntKind.i64.wrap (s2.2 + 1))
    else
      (idx a1.Variables a2.Variable).bind fun y9 =>
      (M.spec_l02Hom a0 y9 y1).bind fun v10 =>
      (M.spec_l01Index v10 a2.Arrow).bind fun v11 =>
      some (IntKind.i64.wrap (s2.1 + v11))) fuel (0, 0)

def M.spec_l38Canonical (a0 : XCategory) (a1 : XQuery) : Option (XSetFunctor × (List Int) × Bool) :=
  (M.spec_l19Free a0 a1.Variables).bind fun v1 =>
  iter (fun (s2 : (List (List Int)) × Int) next3 =>
    if decide (s2.2 < a0.Objects) then
      iter (fun (s7 : (List (List Int)) × Int) next8 =>
        if decide (s7.2 < (a1.Left.length : Int)) then
          (idx a1.Left s7.2).bind fun y12 =>
          (idx a0.To y12.Arrow).bind fun y13 =>
          if y13 == s2.2 then
            (M.spec_l38Pair a0 a1 y12).bind fun v15 =>
            (idx a1.Right s7.2).bind fun y16 =>
            (M.spec_l38Pair a0 a1 y16).bind fun v17 =>
            chk (s7.1.length + 1 ≤ lim) (
              next8 (s7.1 ++ [[v15, v17]], IntKind.i64.wrap (s7.2 + 1)))
          else
            next8 (s7.1, IntKind.i64.wrap (s7.2 + 1))
        else
          (idx v1.Sizes s2.2).bind fun y19 =>
          (M.spec_l01Join y19 s7.1).bind fun v20 =>
          chk (s2.1.length + 1 ≤ lim) (
            next3 (s2.1 ++ [v20], IntKind.i64.wrap (s2.2 + 1)))) fuel (([] : List (List Int)), 0)
    else
      iter (fun (s22 : (List (List Int)) × Bool) next23 =>
        if s22.2 then
          iter (fun (s27 : (List (List Int)) × Bool × Int) next28 =>
            if decide (s27.2.2 < (v1.Actions.length : Int)) then
              (idx a0.From s27.2.2).bind fun y32 =>
              (idx a0.To s27.2.2).bind fun y33 =>
              iter (fun (s34 : (List (List Int)) × Int) next35 =>
                (idx s27.1 y32).bind fun y38 =>
                if decide (s34.2 < (y38.length : Int)) then
                  (idx y38 s34.2).bind fun y40 =>
                  (M.spec_l01Index y38 y40).bind fun v41 =>
                  (idx v1.Actions s27.2.2).bind fun y42 =>
                  (idx y42 v41).bind fun y43 =>
                  (idx y42 s34.2).bind fun y44 =>
                  (idx s27.1 y33).bind fun y45 =>
                  (idx y45 y43).bind fun y46 =>
                  (idx y45 y44).bind fun y47 =>
                  if y46 != y47 then
                    chk (s34.1.length + 1 ≤ lim) (
                      next35 (s34.1 ++ [[y43, y44]], IntKind.i64.wrap (s34.2 + 1)))
                  else
                    next35 (s34.1, IntKind.i64.wrap (s34.2 + 1))
                else
                  if decide ((s34.1.length : Int) > 0) then
                    (idx v1.Sizes y33).bind fun y51 =>
                    (idx s27.1 y33).bind fun y52 =>
                    (M.spec_l01Pairs y52).bind fun v53 =>
                    chk (v53.length + s34.1.length ≤ lim) (
                      (M.spec_l01Join y51 (v53 ++ s34.1)).bind fun v55 =>
                      next28 (s27.1.set y33.toNat v55, true, IntKind.i64.wrap (s27.2.2 + 1)))
                  else
                    next28 (s27.1, s27.2.1, IntKind.i64.wrap (s27.2.2 + 1))) fuel (([] : List (List Int)), 0)
            else
              next23 (s27.1, s27.2.1)) fuel (s22.1, false, 0)
        else
          (M.spec_l21Quotient v1 s22.1).bind fun v56 =>
          iter (fun (s57 : (List Int) × Int) next58 =>
            if decide (s57.2 < (a1.Variables.length : Int)) then
              (idx a1.Variables s57.2).bind fun y62 =>
              (idx s22.1 y62).bind fun y63 =>
              (idx a0.Identity y62).bind fun y64 =>
              (M.spec_l38Pair a0 a1 (⟨s57.2, y64⟩ : XTerm)).bind fun v65 =>
              (idx y63 v65).bind fun y66 =>
              chk (s57.1.length + (([y66] : List Int).length) ≤ lim) (
                next58 (s57.1 ++ ([y66] : List Int), IntKind.i64.wrap (s57.2 + 1)))
            else
              (M.spec_l21Made v56).bind fun v68 =>
              some (v56, s57.1, v68 == 0)) fuel (([] : List Int), 0)) fuel (s2.1, true)) fuel (([] : List (List Int)), 0)

def M.spec_l38Implied (a0 : XCategory) (a1 : XQuery) (a2 : XTerm) (a3 : XTerm) : Option (Bool × Bool) :=
  (M.spec_l38Canonical a0 a1).bind fun v1 =>
  if v1.2.2 then
    (idx v1.1.Actions a2.Arrow).bind fun y3 =>
    (idx v1.2.1 a2.Variable).bind fun y4 =>
    (idx y3 y4).bind fun y5 =>
    (idx v1.1.Actions a3.Arrow).bind fun y6 =>
    (idx v1.2.1 a3.Variable).bind fun y7 =>
    (idx y6 y7).bind fun y8 =>
    some (y5 == y8, true)
  else
    some (false, false)

def M.spec_IsImplied (a0 : XCategory) (a1 : XQuery) (a2 : XTerm) (a3 : XTerm) : Option (Bool × Int) :=
  (M.spec_IsQuery a0 a1).bind fun v1 =>
  if v1 then
    (M.spec_l38Term a0 a1.Variables a2).bind fun v3 =>
    if v3 then
      (M.spec_l38Term a0 a1.Variables a3).bind fun v5 =>
      if v5 then
        (idx a0.To a2.Arrow).bind fun y7 =>
        (idx a0.To a3.Arrow).bind fun y8 =>
        if y7 != y8 then
          some (false, 2)
        else
          (M.spec_l38Implied a0 a1 a2 a3).bind fun v10 =>
          if v10.2 then
            some (v10.1, 0)
          else
            some (false, 3)
      else
        some (false, 2)
    else
      some (false, 2)
  else
    some (false, 1)

def M.impl_Category_isTerm (a0 : XCategory) (a1 : XQuery) (a2 : XTerm) : Option Bool :=
  (M.impl_inRange a2.Variable 0 (IntKind.i64.wrap ((a1.Variables.length : Int) - 1))).bind fun v1 =>
  if v1 then
    (M.impl_Category_arrows a0).bind fun v3 =>
    (M.impl_inRange a2.Arrow 0 (IntKind.i64.wrap (v3 - 1))).bind fun v4 =>
    if v4 then
      (idx a0.From a2.Arrow).bind fun y6 =>
      (idx a1.Variables a2.Variable).bind fun y7 =>
      some (y6 == y7)
    else
      some false
  else
    some false

def M.impl_Category_isCondition (a0 : XCategory) (a1 : XQuery) (a2 : XTerm) (a3 : XTerm) : Option Bool :=
  (M.impl_Category_isTerm a0 a1 a2).bind fun v1 =>
  if v1 then
    (M.impl_Category_isTerm a0 a1 a3).bind fun v3 =>
    if v3 then
      (idx a0.To a2.Arrow).bind fun y5 =>
      (idx a0.To a3.Arrow).bind fun y6 =>
      some (y5 == y6)
    else
      some false
  else
    some false

def M.impl_Category_isQuery (a0 : XCategory) (a1 : XQuery) : Option Bool :=
  if decide ((a1.Variables.length : Int) > 4) then
    some false
  else
    (M.impl_within a1.Variables a0.Objects).bind fun v2 =>
    if v2 then
      if decide ((a1.Left.length : Int) > 6) then
        some false
      else
        if (a1.Right.length : Int) != (a1.Left.length : Int) then
          some false
        else
          iter (fun (s6 : Int) next7 =>
            if decide (s6 < (a1.Left.length : Int)) then
              (idx a1.Left s6).bind fun y11 =>
              (idx a1.Right s6).bind fun y12 =>
              (M.impl_Category_isCondition a0 a1 y11 y12).bind fun v13 =>
              if v13 then
                next7 (IntKind.i64.wrap (s6 + 1))
              else
                some false
            else
              if decide ((a1.Output.length : Int) ≤ 4) then
                (M.impl_within a1.Output (a1.Variables.length : Int)).bind fun v16 =>
                some v16
              else
                some false) fuel 0
    else
      some false

def M.impl_areQueries (a0 : XCategory) (a1 : List XQuery) : Option Bool :=
  (M.impl_Category_isCategory a0).bind fun v1 =>
  if v1 then
    iter (fun (s3 : Int) next4 =>
      if decide (s3 < (a1.length : Int)) then
        (idx a1 s3).bind fun y8 =>
        (M.impl_Category_isQuery a0 y8).bind fun v9 =>
        if v9 then
          next4 (IntKind.i64.wrap (s3 + 1))
        else
          some false
      else
        some true) fuel 0
  else
    some false

def M.impl_numbered_impl_pair_int64 (a0 : List Ximpl_pair_int64) : Option (List ((Int × Int) × Int)) :=
  iter (fun (s1 : (List ((Int × Int) × Int)) × Int) next2 =>
    if decide (s1.2 < (a0.length : Int)) then
      (idx a0 s1.2).bind fun y6 =>
      next2 (mput (y6.first_, y6.second_) s1.2 s1.1, IntKind.i64.wrap (s1.2 + 1))
    else
      some s1.1) fuel (([] : List ((Int × Int) × Int)), 0)

def M.impl_Category_canonical (a0 : XCategory) (a1 : XQuery) : Option (Xcanonical × Bool) :=
  iter (fun (s1 : (List Ximpl_pair_int64) × Int) next2 =>
    if decide (s1.2 < (a1.Variables.length : Int)) then
      (idx a1.Variables s1.2).bind fun y6 =>
      (M.impl_Category_outOf a0 y6).bind fun v7 =>
      iter (fun (s8 : (List Ximpl_pair_int64) × Int) next9 =>
        if decide (s8.2 < (v7.length : Int)) then
          (idx v7 s8.2).bind fun y13 =>
          chk (s8.1.length + (([(⟨s1.2, y13⟩ : Ximpl_pair_int64)] : List Ximpl_pair_int64).length) ≤ lim) (
            next9 (s8.1 ++ ([(⟨s1.2, y13⟩ : Ximpl_pair_int64)] : List Ximpl_pair_int64), IntKind.i64.wrap (s8.2 + 1)))
        else
          next2 (s8.1, IntKind.i64.wrap (s1.2 + 1))) fuel (s1.1, 0)
    else
      (M.impl_numbered_impl_pair_int64 s1.1).bind fun v15 =>
      (M.impl_joinerOf (s1.1.length : Int)).bind fun v16 =>
      iter (fun (s17 : (List Int) × Int) next18 =>
        if decide (s17.2 < (a1.Left.length : Int)) then
          (idx a1.Left s17.2).bind fun y22 =>
          (idx a1.Right s17.2).bind fun y23 =>
          (idx a0.To y22.Arrow).bind fun y24 =>
          (M.impl_Category_outOf a0 y24).bind fun v25 =>
          iter (fun (s26 : (List Int) × Int) next27 =>
            if decide (s26.2 < (v25.length : Int)) then
              (idx v25 s26.2).bind fun y31 =>
              (M.impl_Category_then a0 y22.Arrow y31).bind fun v32 =>
              (M.impl_Category_then a0 y23.Arrow y31).bind fun v33 =>
              (M.impl_joiner_join s26.1 ((mget (y22.Variable, v32) v15).getD 0) ((mget (y23.Variable, v33) v15).getD 0)).bind fun v34 =>
              next27 (v34.2, IntKind.i64.wrap (s26.2 + 1))
            else
              next18 (s26.1, IntKind.i64.wrap (s17.2 + 1))) fuel (s17.1, 0)
        else
          (M.impl_Category_copy a0).bind fun v35 =>
          iter (fun (s36 : (List ((Int × Int) × Int)) × (List Int) × (List Int) × Int) next37 =>
            if decide (s36.2.2.2 < a0.Objects) then
              iter (fun (s41 : (List Int) × (List Ximpl_pair_int64) × (List Int) × Int) next42 =>
                if decide (s41.2.2.2 < (s1.1.length : Int)) then
                  (idx s1.1 s41.2.2.2).bind fun y46 =>
                  (idx a0.To y46.second_).bind fun y47 =>
                  if y47 == s36.2.2.2 then
                    (M.impl_joiner_root s41.2.2.1 s41.2.2.2).bind fun v49 =>
                    chk (s41.1.length + (([v49.1] : List Int).length) ≤ lim) (
                      chk (s41.2.1.length + (([y46] : List Ximpl_pair_int64).length) ≤ lim) (
                        next42 (s41.1 ++ ([v49.1] : List Int), s41.2.1 ++ ([y46] : List Ximpl_pair_int64), v49.2, IntKind.i64.wrap (s41.2.2.2 + 1))))
                  else
                    next42 (s41.1, s41.2.1, s41.2.2.1, IntKind.i64.wrap (s41.2.2.2 + 1))
                else
                  (M.impl_normal s41.1).bind fun v52 =>
                  iter (fun (s53 : (List ((Int × Int) × Int)) × Int) next54 =>
                    if decide (s53.2 < (s41.2.1.length : Int)) then
                      (idx s41.2.1 s53.2).bind fun y58 =>
                      (idx v52 s53.2).bind fun y59 =>
                      next54 (mput (y58.first_, y58.second_) y59 s53.1, IntKind.i64.wrap (s53.2 + 1))
                    else
                      (M.impl_partition_classes v52).bind fun v60 =>
                      chk (s36.2.2.1.length + (([v60] : List Int).length) ≤ lim) (
                        next37 (s53.1, s41.2.2.1, s36.2.2.1 ++ ([v60] : List Int), IntKind.i64.wrap (s36.2.2.2 + 1)))) fuel (s36.1, 0)) fuel (([] : List Int), ([] : List Ximpl_pair_int64), s36.2.1, 0)
            else
              (M.impl_fitting s36.2.2.1).bind fun v62 =>
              if v62 then
                iter (fun (s64 : (List (List Int)) × Int) next65 =>
                  if decide (s64.2 < (a0.From.length : Int)) then
                    (idx a0.From s64.2).bind fun y69 =>
                    (idx s36.2.2.1 y69).bind fun y70 =>
                    chk ((0 : Int) ≤ y70 ∧ y70 ≤ (lim : Int)) (
                      iter (fun (s72 : (List Int) × Int) next73 =>
                        if decide (s72.2 < (s1.1.length : Int)) then
                          (idx s1.1 s72.2).bind fun y77 =>
                          (idx a0.To y77.second_).bind fun y78 =>
                          if y78 == y69 then
                            (M.impl_Category_then a0 y77.second_ s64.2).bind fun v80 =>
                            (idx s72.1 ((mget (y77.first_, y77.second_) s36.1).getD 0)).bind fun _ =>
                            next73 (s72.1.set ((mget (y77.first_, y77.second_) s36.1).getD 0).toNat ((mget (y77.first_, v80) s36.1).getD 0), IntKind.i64.wrap (s72.2 + 1))
                          else
                            next73 (s72.1, IntKind.i64.wrap (s72.2 + 1))
                        else
                          chk (s64.1.length + 1 ≤ lim) (
                            next65 (s64.1 ++ [s72.1], IntKind.i64.wrap (s64.2 + 1)))) fuel ((List.replicate y70.toNat (0 : Int)), 0))
                  else
                    some ((⟨a1, (⟨v35, s36.2.2.1, s64.1⟩ : XSetFunctor), s36.1⟩ : Xcanonical), true)) fuel (([] : List (List Int)), 0)
              else
                some ((⟨⟨[], [], [], []⟩, ⟨⟨0, [], [], [], []⟩, [], []⟩, []⟩ : Xcanonical), false)) fuel (([] : List ((Int × Int) × Int)), s17.1, ([] : List Int), 0)) fuel (v16, 0)) fuel (([] : List Ximpl_pair_int64), 0)

def M.impl_canonical_value (a0 : Xcanonical) (a1 : XTerm) : Option Int :=
  some ((mget (a1.Variable, a1.Arrow) a0.class_).getD 0)

def M.impl_IsImplied (a0 : XCategory) (a1 : XQuery) (a2 : XTerm) (a3 : XTerm) : Option (Bool × Int) :=
  (M.impl_areQueries a0 ([a1] : List XQuery)).bind fun v1 =>
  if v1 then
    (M.impl_Category_isCondition a0 a1 a2 a3).bind fun v3 =>
    if v3 then
      (M.impl_Category_canonical a0 a1).bind fun v5 =>
      if v5.2 then
        (M.impl_canonical_value v5.1 a2).bind fun v7 =>
        (M.impl_canonical_value v5.1 a3).bind fun v8 =>
        some (v7 == v8, 0)
      else
        some (false, 3)
    else
      some (false, 2)
  else
    some (false, 1)

def M.laws_FnExactIsImplied (a0 : XCategory) (a1 : XQuery) (a2 : XTerm) (a3 : XTerm) : Option Bool :=
  (M.laws_szCategory a0 1048576).bind fun v1 =>
  if decide (v1 < 0) then
    some true
  else
    (M.laws_szQuery a1 v1).bind fun v3 =>
    if decide (v3 < 0) then
      some true
    else
      (M.laws_toCategory a0).bind fun v5 =>
      (M.laws_toQuery a1).bind fun v6 =>
      (M.laws_toTerm a2).bind fun v7 =>
      (M.laws_toTerm a3).bind fun v8 =>
      (M.spec_IsImplied v5 v6 v7 v8).bind fun v9 =>
      (M.impl_IsImplied v5 v6 v7 v8).bind fun v10 =>
      if (v10.1 == v9.1) == false then
        some false
      else
        if v10.2 != v9.2 then
          some false
        else
          (M.laws_eqCategory v5 v5).bind fun v13 =>
          if v13 then
            (M.laws_eqQuery v6 v6).bind fun v15 =>
            if v15 then
              some true
            else
              some false
          else
            some false

end Go.Gx

/- Models of the functions. Printed by wip/gen. -/
namespace Go.Gx

end Go.Gx

/- Models of the functions. Printed by wip/gen. -/
namespace Go.Gx

structure XProfunctor where
  Source : XCategory
  Target : XCategory
  Sizes : List (List Int)
  Before : List (List (List Int))
  Behind : List (List (List Int))
def R.XProfunctor (x : XProfunctor) : Prop := (R.XCategory x.Source) ∧ (R.XCategory x.Target) ∧ (AllL (AllL I64) x.Sizes) ∧ (AllL (AllL (AllL I64)) x.Before) ∧ (AllL (AllL (AllL I64)) x.Behind)
end Go.Gx

/- Models of the functions. Printed by wip/gen. -/
namespace Go.Gx

end Go.Gx

/- Models of the functions. Printed by wip/gen. -/
namespace Go.Gx

end Go.Gx

/- Models of the functions. Printed by wip/gen. -/
namespace Go.Gx

end Go.Gx

/- Models of the functions. Printed by wip/gen. -/
namespace Go.Gx

end Go.Gx

/- Models of the functions. Printed by wip/gen. -/
namespace Go.Gx

end Go.Gx
