/- Laid together: part 0. -/
import Derived.Test.YtknmijgiefkijaaGxE2
/- Models of the functions. Printed by wip/gen. -/
namespace Go.Gx

structure XCategory where
  Objects : Int
  From : List Int
  To : List Int
  Identity : List Int
  Composites : List (List Int)
def eXCategory : Enc XCategory := (eA (eC eI XCategory.Objects) (eA (eC (eS eI) XCategory.From) (eA (eC (eS eI) XCategory.To) (eA (eC (eS eI) XCategory.Identity) (eC (eS (eS eI)) XCategory.Composites)))))
def R.XCategory (x : XCategory) : Prop := (I64 x.Objects) ∧ (AllL I64 x.From) ∧ (AllL I64 x.To) ∧ (AllL I64 x.Identity) ∧ (AllL (AllL I64) x.Composites)
theorem eXCategory_nb : EncNb eXCategory := (eA_nb (eC_nb eI_nb _) (eA_nb (eC_nb (eS_nb eI_nb) _) (eA_nb (eC_nb (eS_nb eI_nb) _) (eA_nb (eC_nb (eS_nb eI_nb) _) (eC_nb (eS_nb (eS_nb eI_nb)) _)))))

structure XFunctor where
  Source : XCategory
  Target : XCategory
  Objects : List Int
  Arrows : List Int
def eXFunctor : Enc XFunctor := (eA (eC eXCategory XFunctor.Source) (eA (eC eXCategory XFunctor.Target) (eA (eC (eS eI) XFunctor.Objects) (eC (eS eI) XFunctor.Arrows))))
def R.XFunctor (x : XFunctor) : Prop := (R.XCategory x.Source) ∧ (R.XCategory x.Target) ∧ (AllL I64 x.Objects) ∧ (AllL I64 x.Arrows)
theorem eXFunctor_nb : EncNb eXFunctor := (eA_nb (eC_nb eXCategory_nb _) (eA_nb (eC_nb eXCategory_nb _) (eA_nb (eC_nb (eS_nb eI_nb) _) (eC_nb (eS_nb eI_nb) _))))

structure Xends where
  from_ : Int
  to_ : Int
def eXends : Enc Xends := (eA (eC eI Xends.from_) (eC eI Xends.to_))
def R.Xends (x : Xends) : Prop := (I64 x.from_) ∧ (I64 x.to_)
def M.laws_szInt64S (a0 : List Int) (a1 : Int) : Option Int :=
  if decide ((IntKind.i64.wrap (a1 - (a0.length : Int))) < 0) then
    some (-1)
  else
    some (IntKind.i64.wrap (a1 - (a0.length : Int)))

def M.laws_szInt64SS (a0 : List (List Int)) (a1 : Int) : Option Int :=
  if decide ((IntKind.i64.wrap (a1 - (a0.length : Int))) < 0) then
    some (-1)
  else
    iter (fun (s2 : Int × Int) next3 =>
      if decide (s2.2 < (a0.length : Int)) then
        (idx a0 s2.2).bind fun y7 =>
        (M.laws_szInt64S y7 s2.1).bind fun v8 =>
        if decide (v8 < 0) then
          some (-1)
        else
          next3 (v8, IntKind.i64.wrap (s2.2 + 1))
      else
        some s2.1) fuel (IntKind.i64.wrap (a1 - (a0.length : Int)), 0)

def M.laws_szCategory (a0 : XCategory) (a1 : Int) : Option Int :=
  (M.laws_szInt64S a0.From a1).bind fun v1 =>
  if decide (v1 < 0) then
    some (-1)
  else
    (M.laws_szInt64S a0.To v1).bind fun v3 =>
    if decide (v3 < 0) then
      some (-1)
    else
      (M.laws_szInt64S a0.Identity v3).bind fun v5 =>
      if decide (v5 < 0) then
        some (-1)
      else
        (M.laws_szInt64SS a0.Composites v5).bind fun v7 =>
        if decide (v7 < 0) then
          some (-1)
        else
          some v7

def M.laws_szFunctor (a0 : XFunctor) (a1 : Int) : Option Int :=
  (M.laws_szCategory a0.Source a1).bind fun v1 =>
  if decide (v1 < 0) then
    some (-1)
  else
    (M.laws_szCategory a0.Target v1).bind fun v3 =>
    if decide (v3 < 0) then
      some (-1)
    else
      (M.laws_szInt64S a0.Objects v3).bind fun v5 =>
      if decide (v5 < 0) then
        some (-1)
      else
        (M.laws_szInt64S a0.Arrows v5).bind fun v7 =>
        if decide (v7 < 0) then
          some (-1)
        else
          some v7

def M.spec_l01In (a0 : Int) (a1 : Int) (a2 : Int) : Option Bool :=
  if decide (a0 ≥ a1) then
    some (decide (a0 ≤ a2))
  else
    some false

def M.spec_l01Map (a0 : Int) (a1 : List Int) : Option Bool :=
  iter (fun (s1 : Int) next2 =>
    if decide (s1 < (a1.length : Int)) then
      (idx a1 s1).bind fun y6 =>
      if decide (y6 < 0) then
        some false
      else
        if decide (y6 ≥ a0) then
          some false
        else
          next2 (IntKind.i64.wrap (s1 + 1))
    else
      some true) fuel 0

def M.spec_l02Ends (a0 : List Int) (a1 : Int) (a2 : Int) : Option Bool :=
  if (a0.length : Int) == a1 then
    (M.spec_l01Map a2 a0).bind fun v2 =>
    some v2
  else
    some false

def M.spec_IsShape (a0 : XCategory) : Option Bool :=
  (M.spec_l01In a0.Objects 0 8).bind fun v1 =>
  if v1 then
    if decide ((a0.From.length : Int) > 40) then
      some false
    else
      (M.spec_l02Ends a0.From (a0.From.length : Int) a0.Objects).bind fun v4 =>
      if v4 then
        (M.spec_l02Ends a0.To (a0.From.length : Int) a0.Objects).bind fun v6 =>
        if v6 then
          if (a0.Composites.length : Int) != (a0.From.length : Int) then
            some false
          else
            if (a0.Identity.length : Int) != a0.Objects then
              some false
            else
              (M.spec_l01Map (a0.From.length : Int) a0.Identity).bind fun v10 =>
              if v10 then
                iter (fun (s12 : Int) next13 =>
                  if decide (s12 < a0.Objects) then
                    (idx a0.Identity s12).bind fun y17 =>
                    (idx a0.From y17).bind fun y18 =>
                    if y18 != s12 then
                      some false
                    else
                      (idx a0.To y17).bind fun y20 =>
                      if y20 != s12 then
                        some false
                      else
                        next13 (IntKind.i64.wrap (s12 + 1))
                  else
                    iter (fun (s22 : Int) next23 =>
                      if decide (s22 < (a0.From.length : Int)) then
                        (idx a0.Composites s22).bind fun y27 =>
                        if (y27.length : Int) != (a0.From.length : Int) then
                          some false
                        else
                          iter (fun (s29 : Int) next30 =>
                            if decide (s29 < (a0.From.length : Int)) then
                              (idx y27 s29).bind fun y34 =>
                              (idx a0.To s22).bind fun y35 =>
                              (idx a0.From s29).bind fun y36 =>
                              if y35 != y36 then
                                if y34 != (-1) then
                                  some false
                                else
                                  next30 (IntKind.i64.wrap (s29 + 1))
                              else
                                if decide (y34 < 0) then
                                  some false
                                else
                                  if decide (y34 ≥ (a0.From.length : Int)) then
                                    some false
                                  else
                                    (idx a0.From y34).bind fun y41 =>
                                    (idx a0.From s22).bind fun y42 =>
                                    if y41 != y42 then
                                      some false
                                    else
                                      (idx a0.To y34).bind fun y44 =>
                                      (idx a0.To s29).bind fun y45 =>
                                      if y44 != y45 then
                                        some false
                                      else
                                        next30 (IntKind.i64.wrap (s29 + 1))
                            else
                              next23 (IntKind.i64.wrap (s22 + 1))) fuel 0
                      else
                        some true) fuel 0) fuel 0
              else
                some false
        else
          some false
      else
        some false
  else
    some false

def M.spec_l02Fault (a0 : XCategory) : Option (Int × Int × Int × Int) :=
  iter (fun (s1 : Int) next2 =>
    if decide (s1 < (a0.From.length : Int)) then
      (idx a0.From s1).bind fun y6 =>
      (idx a0.Identity y6).bind fun y7 =>
      (idx a0.Composites y7).bind fun y8 =>
      (idx y8 s1).bind fun y9 =>
      if y9 != s1 then
        some (1, s1, 0, 0)
      else
        (idx a0.Composites s1).bind fun y11 =>
        (idx a0.To s1).bind fun y12 =>
        (idx a0.Identity y12).bind fun y13 =>
        (idx y11 y13).bind fun y14 =>
        if y14 != s1 then
          some (1, s1, 0, 0)
        else
          next2 (IntKind.i64.wrap (s1 + 1))
    else
      iter (fun (s16 : Int) next17 =>
        if decide (s16 < (a0.From.length : Int)) then
          iter (fun (s21 : Int) next22 =>
            if decide (s21 < (a0.From.length : Int)) then
              (idx a0.To s16).bind fun y26 =>
              (idx a0.From s21).bind fun y27 =>
              if y26 != y27 then
                next22 (IntKind.i64.wrap (s21 + 1))
              else
                iter (fun (s29 : Int) next30 =>
                  if decide (s29 < (a0.From.length : Int)) then
                    (idx a0.To s21).bind fun y34 =>
                    (idx a0.From s29).bind fun y35 =>
                    if y34 == y35 then
                      (idx a0.Composites s16).bind fun y37 =>
                      (idx y37 s21).bind fun y38 =>
                      (idx a0.Composites y38).bind fun y39 =>
                      (idx y39 s29).bind fun y40 =>
                      (idx a0.Composites s21).bind fun y41 =>
                      (idx y41 s29).bind fun y42 =>
                      (idx y37 y42).bind fun y43 =>
                      if y40 != y43 then
                        some (2, s16, s21, s29)
                      else
                        next30 (IntKind.i64.wrap (s29 + 1))
                    else
                      next30 (IntKind.i64.wrap (s29 + 1))
                  else
                    next22 (IntKind.i64.wrap (s21 + 1))) fuel 0
            else
              next17 (IntKind.i64.wrap (s16 + 1))) fuel 0
        else
          some (0, 0, 0, 0)) fuel 0) fuel 0

def M.spec_l02Is (a0 : XCategory) : Option Bool :=
  (M.spec_IsShape a0).bind fun v1 =>
  if v1 then
    (M.spec_l02Fault a0).bind fun v3 =>
    some (v3.1 == 0)
  else
    some false

def M.spec_l06Is (a0 : XFunctor) : Option Bool :=
  (M.spec_l02Is a0.Source).bind fun v1 =>
  if v1 then
    (M.spec_l02Is a0.Target).bind fun v3 =>
    if v3 then
      if (a0.Objects.length : Int) != a0.Source.Objects then
        some false
      else
        if (a0.Arrows.length : Int) != (a0.Source.From.length : Int) then
          some false
        else
          (M.spec_l01Map a0.Target.Objects a0.Objects).bind fun v7 =>
          if v7 then
            (M.spec_l01Map (a0.Target.From.length : Int) a0.Arrows).bind fun v9 =>
            if v9 then
              iter (fun (s11 : Int) next12 =>
                if decide (s11 < (a0.Source.From.length : Int)) then
                  (idx a0.Arrows s11).bind fun y16 =>
                  (idx a0.Target.From y16).bind fun y17 =>
                  (idx a0.Source.From s11).bind fun y18 =>
                  (idx a0.Objects y18).bind fun y19 =>
                  if y17 != y19 then
                    some false
                  else
                    (idx a0.Target.To y16).bind fun y21 =>
                    (idx a0.Source.To s11).bind fun y22 =>
                    (idx a0.Objects y22).bind fun y23 =>
                    if y21 != y23 then
                      some false
                    else
                      next12 (IntKind.i64.wrap (s11 + 1))
                else
                  iter (fun (s25 : Int) next26 =>
                    if decide (s25 < a0.Source.Objects) then
                      (idx a0.Source.Identity s25).bind fun y30 =>
                      (idx a0.Arrows y30).bind fun y31 =>
                      (idx a0.Objects s25).bind fun y32 =>
                      (idx a0.Target.Identity y32).bind fun y33 =>
                      if y31 != y33 then
                        some false
                      else
                        next26 (IntKind.i64.wrap (s25 + 1))
                    else
                      iter (fun (s35 : Int) next36 =>
                        if decide (s35 < (a0.Source.From.length : Int)) then
                          iter (fun (s40 : Int) next41 =>
                            if decide (s40 < (a0.Source.From.length : Int)) then
                              (idx a0.Source.To s35).bind fun y45 =>
                              (idx a0.Source.From s40).bind fun y46 =>
                              if y45 == y46 then
                                (idx a0.Source.Composites s35).bind fun y48 =>
                                (idx y48 s40).bind fun y49 =>
                                (idx a0.Arrows y49).bind fun y50 =>
                                (idx a0.Arrows s35).bind fun y51 =>
                                (idx a0.Target.Composites y51).bind fun y52 =>
                                (idx a0.Arrows s40).bind fun y53 =>
                                (idx y52 y53).bind fun y54 =>
                                if y50 != y54 then
                                  some false
                                else
                                  next41 (IntKind.i64.wrap (s40 + 1))
                              else
                                next41 (IntKind.i64.wrap (s40 + 1))
                            else
                              next36 (IntKind.i64.wrap (s35 + 1))) fuel 0
                        else
                          some true) fuel 0) fuel 0) fuel 0
            else
              some false
          else
            some false
    else
      some false
  else
    some false

def M.spec_l01Own (a0 : List Int) : Option (List Int) :=
  chk (([] : List Int).length + a0.length ≤ lim) (
    some (([] : List Int) ++ a0))

def M.spec_l01Own2 (a0 : List (List Int)) : Option (List (List Int)) :=
  iter (fun (s1 : (List (List Int)) × Int) next2 =>
    if decide (s1.2 < (a0.length : Int)) then
      (idx a0 s1.2).bind fun y6 =>
      (M.spec_l01Own y6).bind fun v7 =>
      chk (s1.1.length + 1 ≤ lim) (
        next2 (s1.1 ++ [v7], IntKind.i64.wrap (s1.2 + 1)))
    else
      some s1.1) fuel (([] : List (List Int)), 0)

def M.spec_l02Own (a0 : XCategory) : Option XCategory :=
  (M.spec_l01Own a0.From).bind fun v1 =>
  (M.spec_l01Own a0.To).bind fun v2 =>
  (M.spec_l01Own a0.Identity).bind fun v3 =>
  (M.spec_l01Own2 a0.Composites).bind fun v4 =>
  some (⟨a0.Objects, v1, v2, v3, v4⟩ : XCategory)

def M.spec_l06Make (a0 : XCategory) (a1 : XCategory) (a2 : List Int) (a3 : List Int) : Option XFunctor :=
  (M.spec_l02Own a0).bind fun v1 =>
  (M.spec_l02Own a1).bind fun v2 =>
  (M.spec_l01Own a2).bind fun v3 =>
  (M.spec_l01Own a3).bind fun v4 =>
  some (⟨v1, v2, v3, v4⟩ : XFunctor)

def M.laws_toInt64S (a0 : List Int) : Option (List Int) :=
  chk ((0 : Int) ≤ (a0.length : Int) ∧ (a0.length : Int) ≤ (lim : Int)) (
    iter (fun (s2 : (List Int) × Int) next3 =>
      if decide (s2.2 < (a0.length : Int)) then
        (idx a0 s2.2).bind fun y7 =>
        (idx s2.1 s2.2).bind fun _ =>
        next3 (s2.1.set s2.2.toNat y7, IntKind.i64.wrap (s2.2 + 1))
      else
        some s2.1) fuel ((List.replicate (a0.length : Int).toNat (0 : Int)), 0))

def M.laws_toInt64SS (a0 : List (List Int)) : Option (List (List Int)) :=
  chk ((0 : Int) ≤ (a0.length : Int) ∧ (a0.length : Int) ≤ (lim : Int)) (
    iter (fun (s2 : (List (List Int)) × Int) next3 =>
      if decide (s2.2 < (a0.length : Int)) then
        (idx a0 s2.2).bind fun y7 =>
        (M.laws_toInt64S y7).bind fun v8 =>
        (idx s2.1 s2.2).bind fun _ =>
        next3 (s2.1.set s2.2.toNat v8, IntKind.i64.wrap (s2.2 + 1))
      else
        some s2.1) fuel ((List.replicate (a0.length : Int).toNat ([] : List Int)), 0))

def M.laws_toCategory (a0 : XCategory) : Option XCategory :=
  (M.laws_toInt64S a0.From).bind fun v1 =>
  (M.laws_toInt64S a0.To).bind fun v2 =>
  (M.laws_toInt64S a0.Identity).bind fun v3 =>
  (M.laws_toInt64SS a0.Composites).bind fun v4 =>
  some (⟨a0.Objects, v1, v2, v3, v4⟩ : XCategory)

def M.laws_toFunctor (a0 : XFunctor) : Option XFunctor :=
  (M.laws_toCategory a0.Source).bind fun v1 =>
  (M.laws_toCategory a0.Target).bind fun v2 =>
  (M.laws_toInt64S a0.Objects).bind fun v3 =>
  (M.laws_toInt64S a0.Arrows).bind fun v4 =>
  some (⟨v1, v2, v3, v4⟩ : XFunctor)

def M.impl_Category_arrows (a0 : XCategory) : Option Int :=
  some (a0.From.length : Int)

def M.impl_inRange (a0 : Int) (a1 : Int) (a2 : Int) : Option Bool :=
  if decide (a0 ≥ a1) then
    some (decide (a0 ≤ a2))
  else
    some false

def M.impl_within (a0 : List Int) (a1 : Int) : Option Bool :=
  iter (fun (s1 : Int) next2 =>
    if decide (s1 < (a0.length : Int)) then
      (idx a0 s1).bind fun y6 =>
      (M.impl_inRange y6 0 (IntKind.i64.wrap (a1 - 1))).bind fun v7 =>
      if v7 then
        next2 (IntKind.i64.wrap (s1 + 1))
      else
        some false
    else
      some true) fuel 0

def M.impl_Category_ends (a0 : XCategory) (a1 : Int) : Option Xends :=
  (idx a0.From a1).bind fun y1 =>
  (idx a0.To a1).bind fun y2 =>
  some (⟨y1, y2⟩ : Xends)

def M.impl_Category_isShape (a0 : XCategory) : Option Bool :=
  (M.impl_Category_arrows a0).bind fun v1 =>
  (M.impl_inRange a0.Objects 0 8).bind fun v2 =>
  if v2 then
    if decide (v1 > 40) then
      some false
    else
      if (a0.To.length : Int) != v1 then
        some false
      else
        (M.impl_within a0.From a0.Objects).bind fun v6 =>
        if v6 then
          (M.impl_within a0.To a0.Objects).bind fun v8 =>
          if v8 then
            if (a0.Identity.length : Int) != a0.Objects then
              some false
            else
              (M.impl_within a0.Identity v1).bind fun v11 =>
              if v11 then
                if (a0.Composites.length : Int) != v1 then
                  some false
                else
                  iter (fun (s14 : Int) next15 =>
                    if decide (s14 < (a0.Identity.length : Int)) then
                      (idx a0.Identity s14).bind fun y19 =>
                      (M.impl_Category_ends a0 y19).bind fun v20 =>
                      if ((v20.from_ == s14) && (v20.to_ == s14)) == false then
                        some false
                      else
                        next15 (IntKind.i64.wrap (s14 + 1))
                    else
                      iter (fun (s22 : Int) next23 =>
                        if decide (s22 < (a0.Composites.length : Int)) then
                          (idx a0.Composites s22).bind fun y27 =>
                          if (y27.length : Int) != v1 then
                            some false
                          else
                            iter (fun (s29 : Int) next30 =>
                              if decide (s29 < (y27.length : Int)) then
                                (idx y27 s29).bind fun y34 =>
                                (idx a0.To s22).bind fun y35 =>
                                (idx a0.From s29).bind fun y36 =>
                                if y35 != y36 then
                                  if y34 != (-1) then
                                    some false
                                  else
                                    next30 (IntKind.i64.wrap (s29 + 1))
                                else
                                  (M.impl_inRange y34 0 (IntKind.i64.wrap (v1 - 1))).bind fun v39 =>
                                  if v39 then
                                    (M.impl_Category_ends a0 y34).bind fun v41 =>
                                    (idx a0.From s22).bind fun y42 =>
                                    (idx a0.To s29).bind fun y43 =>
                                    if ((v41.from_ == y42) && (v41.to_ == y43)) == false then
                                      some false
                                    else
                                      next30 (IntKind.i64.wrap (s29 + 1))
                                  else
                                    some false
                              else
                                next23 (IntKind.i64.wrap (s22 + 1))) fuel 0
                        else
                          some true) fuel 0) fuel 0
              else
                some false
          else
            some false
        else
          some false
  else
    some false

def M.impl_Category_then (a0 : XCategory) (a1 : Int) (a2 : Int) : Option Int :=
  (idx a0.Composites a1).bind fun y1 =>
  (idx y1 a2).bind fun y2 =>
  some y2

def M.impl_Category_fault (a0 : XCategory) : Option (Int × Int × Int × Int) :=
  (M.impl_Category_arrows a0).bind fun v1 =>
  iter (fun (s2 : Int) next3 =>
    if decide (s2 < v1) then
      (idx a0.From s2).bind fun y7 =>
      (idx a0.Identity y7).bind fun y8 =>
      (M.impl_Category_then a0 y8 s2).bind fun v9 =>
      if v9 != s2 then
        some (1, s2, 0, 0)
      else
        (idx a0.To s2).bind fun y11 =>
        (idx a0.Identity y11).bind fun y12 =>
        (M.impl_Category_then a0 s2 y12).bind fun v13 =>
        if v13 != s2 then
          some (1, s2, 0, 0)
        else
          next3 (IntKind.i64.wrap (s2 + 1))
    else
      iter (fun (s15 : Int) next16 =>
        if decide (s15 < v1) then
          iter (fun (s20 : Int) next21 =>
            if decide (s20 < v1) then
              (M.impl_Category_then a0 s15 s20).bind fun v25 =>
              if decide (v25 < 0) then
                next21 (IntKind.i64.wrap (s20 + 1))
              else
                iter (fun (s27 : Int) next28 =>
                  if decide (s27 < v1) then
                    (M.impl_Category_then a0 s20 s27).bind fun v32 =>
                    if decide (v32 ≥ 0) then
                      (M.impl_Category_then a0 v25 s27).bind fun v34 =>
                      (M.impl_Category_then a0 s15 v32).bind fun v35 =>
                      if v34 != v35 then
                        some (2, s15, s20, s27)
                      else
                        next28 (IntKind.i64.wrap (s27 + 1))
                    else
                      next28 (IntKind.i64.wrap (s27 + 1))
                  else
                    next21 (IntKind.i64.wrap (s20 + 1))) fuel 0
            else
              next16 (IntKind.i64.wrap (s15 + 1))) fuel 0
        else
          some (0, 0, 0, 0)) fuel 0) fuel 0

def M.impl_Category_isCategory (a0 : XCategory) : Option Bool :=
  (M.impl_Category_isShape a0).bind fun v1 =>
  if v1 then
    (M.impl_Category_fault a0).bind fun v3 =>
    some (v3.1 == 0)
  else
    some false

def M.impl_areCategories (a0 : List XCategory) : Option Bool :=
  iter (fun (s1 : Int) next2 =>
    if decide (s1 < (a0.length : Int)) then
      (idx a0 s1).bind fun y6 =>
      (M.impl_Category_isCategory y6).bind fun v7 =>
      if v7 then
        next2 (IntKind.i64.wrap (s1 + 1))
      else
        some false
    else
      some true) fuel 0

def M.impl_Functor_fits (a0 : XFunctor) : Option Bool :=
  if (a0.Objects.length : Int) != a0.Source.Objects then
    some false
  else
    (M.impl_Category_arrows a0.Source).bind fun v2 =>
    if (a0.Arrows.length : Int) != v2 then
      some false
    else
      (M.impl_within a0.Objects a0.Target.Objects).bind fun v4 =>
      if v4 then
        (M.impl_Category_arrows a0.Target).bind fun v6 =>
        (M.impl_within a0.Arrows v6).bind fun v7 =>
        if v7 then
          iter (fun (s9 : Int) next10 =>
            if decide (s9 < (a0.Arrows.length : Int)) then
              (idx a0.Arrows s9).bind fun y14 =>
              (idx a0.Target.From y14).bind fun y15 =>
              (idx a0.Source.From s9).bind fun y16 =>
              (idx a0.Objects y16).bind fun y17 =>
              if y15 != y17 then
                some false
              else
                (idx a0.Target.To y14).bind fun y19 =>
                (idx a0.Source.To s9).bind fun y20 =>
                (idx a0.Objects y20).bind fun y21 =>
                if y19 != y21 then
                  some false
                else
                  next10 (IntKind.i64.wrap (s9 + 1))
            else
              iter (fun (s23 : Int) next24 =>
                if decide (s23 < (a0.Source.Identity.length : Int)) then
                  (idx a0.Source.Identity s23).bind fun y28 =>
                  (idx a0.Arrows y28).bind fun y29 =>
                  (idx a0.Objects s23).bind fun y30 =>
                  (idx a0.Target.Identity y30).bind fun y31 =>
                  if y29 != y31 then
                    some false
                  else
                    next24 (IntKind.i64.wrap (s23 + 1))
                else
                  iter (fun (s33 : Int) next34 =>
                    if decide (s33 < (a0.Source.Composites.length : Int)) then
                      (idx a0.Source.Composites s33).bind fun y38 =>
                      iter (fun (s39 : Int) next40 =>
                        if decide (s39 < (y38.length : Int)) then
                          (idx y38 s39).bind fun y44 =>
                          if decide (y44 ≥ 0) then
                            (idx a0.Arrows y44).bind fun y46 =>
                            (idx a0.Arrows s33).bind fun y47 =>
                            (idx a0.Arrows s39).bind fun y48 =>
                            (M.impl_Category_then a0.Target y47 y48).bind fun v49 =>
                            if y46 != v49 then
                              some false
                            else
                              next40 (IntKind.i64.wrap (s39 + 1))
                          else
                            next40 (IntKind.i64.wrap (s39 + 1))
                        else
                          next34 (IntKind.i64.wrap (s33 + 1))) fuel 0
                    else
                      some true) fuel 0) fuel 0) fuel 0
        else
          some false
      else
        some false

def M.impl_Functor_isFunctor (a0 : XFunctor) : Option Bool :=
  (M.impl_areCategories ([a0.Source, a0.Target] : List XCategory)).bind fun v1 =>
  if v1 then
    (M.impl_Functor_fits a0).bind fun v3 =>
    some v3
  else
    some false

def M.impl_clone (a0 : List Int) : Option (List Int) :=
  chk (([] : List Int).length + a0.length ≤ lim) (
    some (([] : List Int) ++ a0))

def M.impl_clones (a0 : List (List Int)) : Option (List (List Int)) :=
  chk ((0 : Int) ≤ (a0.length : Int) ∧ (a0.length : Int) ≤ (lim : Int)) (
    iter (fun (s2 : (List (List Int)) × Int) next3 =>
      if decide (s2.2 < (a0.length : Int)) then
        (idx a0 s2.2).bind fun y7 =>
        (M.impl_clone y7).bind fun v8 =>
        chk (s2.1.length + 1 ≤ lim) (
          next3 (s2.1 ++ [v8], IntKind.i64.wrap (s2.2 + 1)))
      else
        some s2.1) fuel (([] : List (List Int)), 0))

def M.impl_Category_copy (a0 : XCategory) : Option XCategory :=
  (M.impl_clone a0.From).bind fun v1 =>
  (M.impl_clone a0.To).bind fun v2 =>
  (M.impl_clone a0.Identity).bind fun v3 =>
  (M.impl_clones a0.Composites).bind fun v4 =>
  some (⟨a0.Objects, v1, v2, v3, v4⟩ : XCategory)

def M.impl_functor (a0 : XCategory) (a1 : XCategory) (a2 : List Int) (a3 : List Int) : Option XFunctor :=
  (M.impl_Category_copy a0).bind fun v1 =>
  (M.impl_Category_copy a1).bind fun v2 =>
  (M.impl_clone a2).bind fun v3 =>
  (M.impl_clone a3).bind fun v4 =>
  some (⟨v1, v2, v3, v4⟩ : XFunctor)

def M.laws_eqInt64S (a0 : List Int) (a1 : List Int) : Option Bool :=
  if (a0.length : Int) != (a1.length : Int) then
    some false
  else
    iter (fun (s2 : Int) next3 =>
      if decide (s2 < (a0.length : Int)) then
        (idx a0 s2).bind fun y7 =>
        (idx a1 s2).bind fun y8 =>
        if y7 != y8 then
          some false
        else
          next3 (IntKind.i64.wrap (s2 + 1))
      else
        some true) fuel 0

def M.laws_eqInt64SS (a0 : List (List Int)) (a1 : List (List Int)) : Option Bool :=
  if (a0.length : Int) != (a1.length : Int) then
    some false
  else
    iter (fun (s2 : Int) next3 =>
      if decide (s2 < (a0.length : Int)) then
        (idx a0 s2).bind fun y7 =>
        (idx a1 s2).bind fun y8 =>
        (M.laws_eqInt64S y7 y8).bind fun v9 =>
        if v9 then
          next3 (IntKind.i64.wrap (s2 + 1))
        else
          some false
      else
        some true) fuel 0

def M.laws_eqCategory (a0 : XCategory) (a1 : XCategory) : Option Bool :=
  if a0.Objects != a1.Objects then
    some false
  else
    (M.laws_eqInt64S a0.From a1.From).bind fun v2 =>
    if v2 then
      (M.laws_eqInt64S a0.To a1.To).bind fun v4 =>
      if v4 then
        (M.laws_eqInt64S a0.Identity a1.Identity).bind fun v6 =>
        if v6 then
          (M.laws_eqInt64SS a0.Composites a1.Composites).bind fun v8 =>
          if v8 then
            some true
          else
            some false
        else
          some false
      else
        some false
    else
      some false

def M.laws_eqFunctor (a0 : XFunctor) (a1 : XFunctor) : Option Bool :=
  (M.laws_eqCategory a0.Source a1.Source).bind fun v1 =>
  if v1 then
    (M.laws_eqCategory a0.Target a1.Target).bind fun v3 =>
    if v3 then
      (M.laws_eqInt64S a0.Objects a1.Objects).bind fun v5 =>
      if v5 then
        (M.laws_eqInt64S a0.Arrows a1.Arrows).bind fun v7 =>
        if v7 then
          some true
        else
          some false
      else
        some false
    else
      some false
  else
    some false

def M.laws_markInt64S (a0 : List Int) (a1 : Int) : Option (Int × (List Int)) :=
  iter (fun (s1 : (List Int) × Int × Int) next2 =>
    if decide (s1.2.2 < (s1.1.length : Int)) then
      (idx s1.1 s1.2.2).bind fun _ =>
      next2 (s1.1.set s1.2.2.toNat s1.2.1, IntKind.i64.wrap (s1.2.1 + 1), IntKind.i64.wrap (s1.2.2 + 1))
    else
      some (s1.2.1, s1.1)) fuel (a0, a1, 0)

theorem M.len_markInt64S {a0 : List Int} {a1 : Int} {r : Int × (List Int)} (h : M.laws_markInt64S a0 a1 = some r) : a0.length = r.2.length := by
  unfold M.laws_markInt64S at h
  refine iter_pres (fun s => s.1.length = a0.length) (fun r => a0.length = r.2.length) ?_ _ _ _ rfl h
  intro s next r hs hn h
  try dsimp only at h
  split at h
  · obtain ⟨_, _, h⟩ := bind_some' h
    exact hn _ (by simpa using hs) h
  · obtain rfl := Option.some.inj h; exact hs.symm

def M.laws_markInt64SS (a0 : List (List Int)) (a1 : Int) : Option (Int × (List (List Int))) :=
  iter (fun (s1 : (List (List Int)) × Int × Int) next2 =>
    if decide (s1.2.2 < (s1.1.length : Int)) then
      (idx s1.1 s1.2.2).bind fun y6 =>
      (M.laws_markInt64S y6 s1.2.1).bind fun v7 =>
      next2 (s1.1.set s1.2.2.toNat v7.2, v7.1, IntKind.i64.wrap (s1.2.2 + 1))
    else
      some (s1.2.1, s1.1)) fuel (a0, a1, 0)

theorem M.len_markInt64SS {a0 : List (List Int)} {a1 : Int} {r : Int × (List (List Int))} (h : M.laws_markInt64SS a0 a1 = some r) : a0.length = r.2.length := by
  unfold M.laws_markInt64SS at h
  refine iter_pres (fun s => s.1.length = a0.length) (fun r => a0.length = r.2.length) ?_ _ _ _ rfl h
  intro s next r hs hn h
  try dsimp only at h
  split at h
  · obtain ⟨_, _, h⟩ := bind_some' h
    obtain ⟨_, _, h⟩ := bind_some' h
    exact hn _ (by simpa using hs) h
  · obtain rfl := Option.some.inj h; exact hs.symm

def M.laws_markCategory (a0 : XCategory) (a1 : Int) : Option (Int × XCategory) :=
  (M.laws_markInt64S a0.From a1).bind fun v1 =>
  (M.laws_markInt64S a0.To v1.1).bind fun v2 =>
  (M.laws_markInt64S a0.Identity v2.1).bind fun v3 =>
  (M.laws_markInt64SS a0.Composites v3.1).bind fun v4 =>
  some (v4.1, (⟨a0.Objects, v1.2, v2.2, v3.2, v4.2⟩ : XCategory))

theorem M.len_markCategory {a0 : XCategory} {a1 : Int} {r : Int × XCategory} (h : M.laws_markCategory a0 a1 = some r) : a0.Objects = r.2.Objects ∧ a0.From.length = r.2.From.length ∧ a0.To.length = r.2.To.length ∧ a0.Identity.length = r.2.Identity.length ∧ a0.Composites.length = r.2.Composites.length := by
  unfold M.laws_markCategory at h
  obtain ⟨v0, h0, h⟩ := bind_some' h
  have l0 := M.len_markInt64S h0
  obtain ⟨v1, h1, h⟩ := bind_some' h
  have l1 := M.len_markInt64S h1
  obtain ⟨v2, h2, h⟩ := bind_some' h
  have l2 := M.len_markInt64S h2
  obtain ⟨v3, h3, h⟩ := bind_some' h
  have l3 := M.len_markInt64SS h3
  obtain rfl := Option.some.inj h
  refine ⟨?_, ?_, ?_, ?_, ?_⟩ <;> dsimp only <;> omega
def M.laws_markFunctor (a0 : XFunctor) (a1 : Int) : Option (Int × XFunctor) :=
  (M.laws_markCategory a0.Source a1).bind fun v1 =>
  (M.laws_markCategory a0.Target v1.1).bind fun v2 =>
  (M.laws_markInt64S a0.Objects v2.1).bind fun v3 =>
  (M.laws_markInt64S a0.Arrows v3.1).bind fun v4 =>
  some (v4.1, (⟨(⟨a0.Source.Objects, v1.2.From, v1.2.To, v1.2.Identity, v1.2.Composites⟩ : XCategory), (⟨a0.Target.Objects, v2.2.From, v2.2.To, v2.2.Identity, v2.2.Composites⟩ : XCategory), v3.2, v4.2⟩ : XFunctor))

theorem M.len_markFunctor {a0 : XFunctor} {a1 : Int} {r : Int × XFunctor} (h : M.laws_markFunctor a0 a1 = some r) : a0.Source.Objects = r.2.Source.Objects ∧ a0.Source.From.length = r.2.Source.From.length ∧ a0.Source.To.length = r.2.Source.To.length ∧ a0.Source.Identity.length = r.2.Source.Identity.length ∧ a0.Source.Composites.length = r.2.Source.Composites.length ∧ a0.Target.Objects = r.2.Target.Objects ∧ a0.Target.From.length = r.2.Target.From.length ∧ a0.Target.To.length = r.2.Target.To.length ∧ a0.Target.Identity.length = r.2.Target.Identity.length ∧ a0.Target.Composites.length = r.2.Target.Composites.length ∧ a0.Objects.length = r.2.Objects.length ∧ a0.Arrows.length = r.2.Arrows.length := by
  unfold M.laws_markFunctor at h
  obtain ⟨v0, h0, h⟩ := bind_some' h
  have l0 := M.len_markCategory h0
  obtain ⟨v1, h1, h⟩ := bind_some' h
  have l1 := M.len_markCategory h1
  obtain ⟨v2, h2, h⟩ := bind_some' h
  have l2 := M.len_markInt64S h2
  obtain ⟨v3, h3, h⟩ := bind_some' h
  have l3 := M.len_markInt64S h3
  obtain rfl := Option.some.inj h
  refine ⟨?_, ?_, ?_, ?_, ?_, ?_, ?_, ?_, ?_, ?_, ?_, ?_⟩ <;> dsimp only <;> omega
theorem rsC_eXFunctor (q : Nat) {x y : XFunctor} (h : x.Source.Objects = y.Source.Objects ∧ x.Source.From.length = y.Source.From.length ∧ x.Source.To.length = y.Source.To.length ∧ x.Source.Identity.length = y.Source.Identity.length ∧ x.Source.Composites.length = y.Source.Composites.length ∧ x.Target.Objects = y.Target.Objects ∧ x.Target.From.length = y.Target.From.length ∧ x.Target.To.length = y.Target.To.length ∧ x.Target.Identity.length = y.Target.Identity.length ∧ x.Target.Composites.length = y.Target.Composites.length ∧ x.Objects.length = y.Objects.length ∧ x.Arrows.length = y.Arrows.length) : rsC q (eXFunctor.o x) = rsC q (eXFunctor.o y) := by
  obtain ⟨h0, h1, h2, h3, h4, h5, h6, h7, h8, h9, h10, h11⟩ := h
  have e : ∀ z : XFunctor, rsC q (eXFunctor.o z) = [iv z.Source.Objects, .rs (q + 1) 0 z.Source.From.length, .rs (q + 1 + 1) 0 z.Source.To.length, .rs (q + 1 + 1 + 1) 0 z.Source.Identity.length, .rs (q + 1 + 1 + 1 + 1) 0 z.Source.Composites.length, iv z.Target.Objects, .rs (q + 1 + 1 + 1 + 1 + 1 + 1) 0 z.Target.From.length, .rs (q + 1 + 1 + 1 + 1 + 1 + 1 + 1) 0 z.Target.To.length, .rs (q + 1 + 1 + 1 + 1 + 1 + 1 + 1 + 1) 0 z.Target.Identity.length, .rs (q + 1 + 1 + 1 + 1 + 1 + 1 + 1 + 1 + 1) 0 z.Target.Composites.length, .rs (q + 1 + 1 + 1 + 1 + 1 + 1 + 1 + 1 + 1 + 1) 0 z.Objects.length, .rs (q + 1 + 1 + 1 + 1 + 1 + 1 + 1 + 1 + 1 + 1 + 1) 0 z.Arrows.length] := fun _ => rfl
  rw [e, e, h0, h1, h2, h3, h4, h5, h6, h7, h8, h9, h10, h11]

def M.laws_heldInt64S (a0 : List Int) (a1 : Int) : Option Int :=
  iter (fun (s1 : Int × Int) next2 =>
    if decide (s1.2 < (a0.length : Int)) then
      (idx a0 s1.2).bind fun y6 =>
      if y6 != s1.1 then
        some (-1)
      else
        next2 (IntKind.i64.wrap (s1.1 + 1), IntKind.i64.wrap (s1.2 + 1))
    else
      some s1.1) fuel (a1, 0)

def M.laws_heldInt64SS (a0 : List (List Int)) (a1 : Int) : Option Int :=
  iter (fun (s1 : Int × Int) next2 =>
    if decide (s1.2 < (a0.length : Int)) then
      (idx a0 s1.2).bind fun y6 =>
      (M.laws_heldInt64S y6 s1.1).bind fun v7 =>
      if decide (v7 < 0) then
        some (-1)
      else
        next2 (v7, IntKind.i64.wrap (s1.2 + 1))
    else
      some s1.1) fuel (a1, 0)

def M.laws_heldCategory (a0 : XCategory) (a1 : Int) : Option Int :=
  (M.laws_heldInt64S a0.From a1).bind fun v1 =>
  if decide (v1 < 0) then
    some (-1)
  else
    (M.laws_heldInt64S a0.To v1).bind fun v3 =>
    if decide (v3 < 0) then
      some (-1)
    else
      (M.laws_heldInt64S a0.Identity v3).bind fun v5 =>
      if decide (v5 < 0) then
        some (-1)
      else
        (M.laws_heldInt64SS a0.Composites v5).bind fun v7 =>
        if decide (v7 < 0) then
          some (-1)
        else
          some v7

def M.laws_heldFunctor (a0 : XFunctor) (a1 : Int) : Option Int :=
  (M.laws_heldCategory a0.Source a1).bind fun v1 =>
  if decide (v1 < 0) then
    some (-1)
  else
    (M.laws_heldCategory a0.Target v1).bind fun v3 =>
    if decide (v3 < 0) then
      some (-1)
    else
      (M.laws_heldInt64S a0.Objects v3).bind fun v5 =>
      if decide (v5 < 0) then
        some (-1)
      else
        (M.laws_heldInt64S a0.Arrows v5).bind fun v7 =>
        if decide (v7 < 0) then
          some (-1)
        else
          some v7

end Go.Gx

/- Models of the functions. Printed by wip/gen. -/
namespace Go.Gx

structure XTransformation where
  Source : XFunctor
  Target : XFunctor
  Components : List Int
def R.XTransformation (x : XTransformation) : Prop := (R.XFunctor x.Source) ∧ (R.XFunctor x.Target) ∧ (AllL I64 x.Components)
end Go.Gx

/- Models of the functions. Printed by wip/gen. -/
namespace Go.Gx

def M.spec_l01Same (a0 : List Int) (a1 : List Int) : Option Bool :=
  if (a0.length : Int) != (a1.length : Int) then
    some false
  else
    iter (fun (s2 : Int) next3 =>
      if decide (s2 < (a0.length : Int)) then
        (idx a0 s2).bind fun y7 =>
        (idx a1 s2).bind fun y8 =>
        if y7 != y8 then
          some false
        else
          next3 (IntKind.i64.wrap (s2 + 1))
      else
        some true) fuel 0

end Go.Gx

/- Models of the functions. Printed by wip/gen. -/
namespace Go.Gx

def M.spec_l02Hom (a0 : XCategory) (a1 : Int) (a2 : Int) : Option (List Int) :=
  iter (fun (s1 : (List Int) × Int) next2 =>
    if decide (s1.2 < (a0.From.length : Int)) then
      (idx a0.From s1.2).bind fun y6 =>
      if y6 == a1 then
        (idx a0.To s1.2).bind fun y8 =>
        if y8 == a2 then
          chk (s1.1.length + (([s1.2] : List Int).length) ≤ lim) (
            next2 (s1.1 ++ ([s1.2] : List Int), IntKind.i64.wrap (s1.2 + 1)))
        else
          next2 (s1.1, IntKind.i64.wrap (s1.2 + 1))
      else
        next2 (s1.1, IntKind.i64.wrap (s1.2 + 1))
    else
      some s1.1) fuel (([] : List Int), 0)

def M.spec_l01Index (a0 : List Int) (a1 : Int) : Option Int :=
  iter (fun (s1 : Int) next2 =>
    if decide (s1 < (a0.length : Int)) then
      (idx a0 s1).bind fun y6 =>
      if y6 == a1 then
        some s1
      else
        next2 (IntKind.i64.wrap (s1 + 1))
    else
      some (-1)) fuel 0

def M.spec_l02Then (a0 : XCategory) (a1 : Int) (a2 : Int) : Option Int :=
  (idx a0.Composites a1).bind fun y1 =>
  (idx y1 a2).bind fun y2 =>
  some y2

def M.impl_Category_hom (a0 : XCategory) (a1 : Int) (a2 : Int) : Option (List Int) :=
  iter (fun (s1 : (List Int) × Int) next2 =>
    if decide (s1.2 < (a0.From.length : Int)) then
      (idx a0.From s1.2).bind fun y6 =>
      if y6 == a1 then
        (idx a0.To s1.2).bind fun y8 =>
        if y8 == a2 then
          chk (s1.1.length + (([s1.2] : List Int).length) ≤ lim) (
            next2 (s1.1 ++ ([s1.2] : List Int), IntKind.i64.wrap (s1.2 + 1)))
        else
          next2 (s1.1, IntKind.i64.wrap (s1.2 + 1))
      else
        next2 (s1.1, IntKind.i64.wrap (s1.2 + 1))
    else
      some s1.1) fuel (([] : List Int), 0)

def M.slices_Index_int64_int64 (a0 : List Int) (a1 : Int) : Option Int :=
  iter (fun (s1 : Int) next2 =>
    if decide (s1 < (a0.length : Int)) then
      (idx a0 s1).bind fun y6 =>
      if a1 == y6 then
        some s1
      else
        next2 (IntKind.i64.wrap (s1 + 1))
    else
      some (-1)) fuel 0

def M.impl_index_int64 (a0 : List Int) (a1 : Int) : Option Int :=
  (M.slices_Index_int64_int64 a0 a1).bind fun v1 =>
  some v1

end Go.Gx

/- Models of the functions. Printed by wip/gen. -/
namespace Go.Gx

end Go.Gx

/- Models of the functions. Printed by wip/gen. -/
namespace Go.Gx

end Go.Gx

/- Models of the functions. Printed by wip/gen. -/
namespace Go.Gx

def M.spec_l02Fits (a0 : XCategory) : Option Bool :=
  if decide (a0.Objects ≤ 8) then
    some (decide ((a0.From.length : Int) ≤ 40))
  else
    some false

end Go.Gx

/- Models of the functions. Printed by wip/gen. -/
namespace Go.Gx

structure X3_int64 where
  E0 : Int
  E1 : Int
  E2 : Int
def eX3_int64 : Enc X3_int64 := (eA (eC eI X3_int64.E0) (eA (eC eI X3_int64.E1) (eC eI X3_int64.E2)))
theorem eX3_int64_ok : EncOk eX3_int64 := (eA_ok (eC_ok eI_ok _) (eA_ok (eC_ok eI_ok _) (eC_ok eI_ok _)))
def R.X3_int64 (x : X3_int64) : Prop := (I64 x.E0) ∧ (I64 x.E1) ∧ (I64 x.E2)
structure Xcompletion_q where
  q0_ : Unit
  q1_ : Unit
  q2_ : Unit
  q3_ : Unit
  q4_ : Unit
  q5_ : Unit
  arrows_ : List X3_int64
def eXcompletion_q : Enc Xcompletion_q := (eA (eC eAny Xcompletion_q.q0_) (eA (eC eAny Xcompletion_q.q1_) (eA (eC eAny Xcompletion_q.q2_) (eA (eC eAny Xcompletion_q.q3_) (eA (eC eAny Xcompletion_q.q4_) (eA (eC eAny Xcompletion_q.q5_) (eC (eS eX3_int64) Xcompletion_q.arrows_)))))))
def R.Xcompletion_q (x : Xcompletion_q) : Prop := ((fun _ => True) x.q0_) ∧ ((fun _ => True) x.q1_) ∧ ((fun _ => True) x.q2_) ∧ ((fun _ => True) x.q3_) ∧ ((fun _ => True) x.q4_) ∧ ((fun _ => True) x.q5_) ∧ (AllL R.X3_int64 x.arrows_)

structure Xcompletion where
  category_ : XCategory
  objects_ : List Int
  arrows_ : List X3_int64
def eXcompletion : Enc Xcompletion := (eA (eC eXCategory Xcompletion.category_) (eA (eC (eS eI) Xcompletion.objects_) (eC (eS eX3_int64) Xcompletion.arrows_)))
def R.Xcompletion (x : Xcompletion) : Prop := (R.XCategory x.category_) ∧ (AllL I64 x.objects_) ∧ (AllL R.X3_int64 x.arrows_)
def M.spec_l11Idempotents (a0 : XCategory) : Option (List Int) :=
  iter (fun (s1 : (List Int) × Int) next2 =>
    if decide (s1.2 < (a0.From.length : Int)) then
      (idx a0.From s1.2).bind fun y6 =>
      (idx a0.To s1.2).bind fun y7 =>
      if y6 == y7 then
        (M.spec_l02Then a0 s1.2 s1.2).bind fun v9 =>
        if v9 == s1.2 then
          chk (s1.1.length + (([s1.2] : List Int).length) ≤ lim) (
            next2 (s1.1 ++ ([s1.2] : List Int), IntKind.i64.wrap (s1.2 + 1)))
        else
          next2 (s1.1, IntKind.i64.wrap (s1.2 + 1))
      else
        next2 (s1.1, IntKind.i64.wrap (s1.2 + 1))
    else
      some s1.1) fuel (([] : List Int), 0)

def M.spec_l09Column (a0 : List (List Int)) (a1 : Int) : Option (List Int) :=
  iter (fun (s1 : (List Int) × Int) next2 =>
    if decide (s1.2 < (a0.length : Int)) then
      (idx a0 s1.2).bind fun y6 =>
      (idx y6 a1).bind fun y7 =>
      chk (s1.1.length + (([y7] : List Int).length) ≤ lim) (
        next2 (s1.1 ++ ([y7] : List Int), IntKind.i64.wrap (s1.2 + 1)))
    else
      some s1.1) fuel (([] : List Int), 0)

def M.spec_l09Find (a0 : List (List Int)) (a1 : List Int) : Option Int :=
  iter (fun (s1 : Int) next2 =>
    if decide (s1 < (a0.length : Int)) then
      (idx a0 s1).bind fun y6 =>
      (M.spec_l01Same y6 a1).bind fun v7 =>
      if v7 then
        some s1
      else
        next2 (IntKind.i64.wrap (s1 + 1))
    else
      some (-1)) fuel 0

def M.spec_l11Complete (a0 : XCategory) : Option (XCategory × (List (List Int))) :=
  (M.spec_l11Idempotents a0).bind fun v1 =>
  iter (fun (s2 : (List (List Int)) × Int) next3 =>
    if decide (s2.2 < (v1.length : Int)) then
      iter (fun (s7 : (List (List Int)) × Int) next8 =>
        if decide (s7.2 < (v1.length : Int)) then
          (idx v1 s2.2).bind fun y12 =>
          (idx a0.From y12).bind fun y13 =>
          (idx v1 s7.2).bind fun y14 =>
          (idx a0.From y14).bind fun y15 =>
          (M.spec_l02Hom a0 y13 y15).bind fun v16 =>
          iter (fun (s17 : (List (List Int)) × Int) next18 =>
            if decide (s17.2 < (v16.length : Int)) then
              (idx v16 s17.2).bind fun y22 =>
              (M.spec_l02Then a0 y12 y22).bind fun v23 =>
              (M.spec_l02Then a0 v23 y14).bind fun v24 =>
              if v24 == y22 then
                chk (s17.1.length + 1 ≤ lim) (
                  next18 (s17.1 ++ [[s2.2, s7.2, y22]], IntKind.i64.wrap (s17.2 + 1)))
              else
                next18 (s17.1, IntKind.i64.wrap (s17.2 + 1))
            else
              next8 (s17.1, IntKind.i64.wrap (s7.2 + 1))) fuel (s7.1, 0)
        else
          next3 (s7.1, IntKind.i64.wrap (s2.2 + 1))) fuel (s2.1, 0)
    else
      (M.spec_l09Column s2.1 0).bind fun v27 =>
      (M.spec_l09Column s2.1 1).bind fun v28 =>
      iter (fun (s29 : (List Int) × Int) next30 =>
        if decide (s29.2 < (v1.length : Int)) then
          (idx v1 s29.2).bind fun y34 =>
          (M.spec_l09Find s2.1 ([s29.2, s29.2, y34] : List Int)).bind fun v35 =>
          chk (s29.1.length + (([v35] : List Int).length) ≤ lim) (
            next30 (s29.1 ++ ([v35] : List Int), IntKind.i64.wrap (s29.2 + 1)))
        else
          iter (fun (s37 : (List (List Int)) × Int) next38 =>
            if decide (s37.2 < (s2.1.length : Int)) then
              (M.spec_l02Fits (⟨(v1.length : Int), v27, v28, s29.1, s37.1⟩ : XCategory)).bind fun v42 =>
              if v42 then
                iter (fun (s44 : (List Int) × Int) next45 =>
                  if decide (s44.2 < (s2.1.length : Int)) then
                    (idx s2.1 s37.2).bind fun y49 =>
                    (idx s2.1 s44.2).bind fun y50 =>
                    (idx y49 1).bind fun y51 =>
                    (idx y50 0).bind fun y52 =>
                    if y51 == y52 then
                      (idx y49 0).bind fun y54 =>
                      (idx y50 1).bind fun y55 =>
                      (idx y49 2).bind fun y56 =>
                      (idx y50 2).bind fun y57 =>
                      (M.spec_l02Then a0 y56 y57).bind fun v58 =>
                      (M.spec_l09Find s2.1 ([y54, y55, v58] : List Int)).bind fun v59 =>
                      chk (s44.1.length + (([v59] : List Int).length) ≤ lim) (
                        next45 (s44.1 ++ ([v59] : List Int), IntKind.i64.wrap (s44.2 + 1)))
                    else
                      chk (s44.1.length + (([(-1)] : List Int).length) ≤ lim) (
                        next45 (s44.1 ++ ([(-1)] : List Int), IntKind.i64.wrap (s44.2 + 1)))
                  else
                    chk (s37.1.length + 1 ≤ lim) (
                      next38 (s37.1 ++ [s44.1], IntKind.i64.wrap (s37.2 + 1)))) fuel (([] : List Int), 0)
              else
                some ((⟨(v1.length : Int), v27, v28, s29.1, s37.1⟩ : XCategory), s2.1)
            else
              some ((⟨(v1.length : Int), v27, v28, s29.1, s37.1⟩ : XCategory), s2.1)) fuel (([] : List (List Int)), 0)) fuel (([] : List Int), 0)) fuel (([] : List (List Int)), 0)

def M.impl_Category_idempotents (a0 : XCategory) : Option (List Int) :=
  iter (fun (s1 : (List Int) × Int) next2 =>
    if decide (s1.2 < (a0.From.length : Int)) then
      (idx a0.Composites s1.2).bind fun y6 =>
      (idx y6 s1.2).bind fun y7 =>
      if y7 == s1.2 then
        chk (s1.1.length + (([s1.2] : List Int).length) ≤ lim) (
          next2 (s1.1 ++ ([s1.2] : List Int), IntKind.i64.wrap (s1.2 + 1)))
      else
        next2 (s1.1, IntKind.i64.wrap (s1.2 + 1))
    else
      some s1.1) fuel (([] : List Int), 0)

def M.slices_Index_3_int64_3_int64 (a0 : List X3_int64) (a1 : X3_int64) : Option Int :=
  iter (fun (s1 : Int) next2 =>
    if decide (s1 < (a0.length : Int)) then
      (idx a0 s1).bind fun y6 =>
      if ((a1.E0 == y6.E0) && ((a1.E1 == y6.E1) && (a1.E2 == y6.E2))) == true then
        some s1
      else
        next2 (IntKind.i64.wrap (s1 + 1))
    else
      some (-1)) fuel 0

def M.impl_index_3_int64 (a0 : List X3_int64) (a1 : X3_int64) : Option Int :=
  (M.slices_Index_3_int64_3_int64 a0 a1).bind fun v1 =>
  some v1

def M.impl_completion_arrow (a0 : Xcompletion_q) (a1 : Int) (a2 : Int) (a3 : Int) : Option Int :=
  (M.impl_index_3_int64 a0.arrows_ (⟨a1, a2, a3⟩ : X3_int64)).bind fun v1 =>
  some v1

def M.impl_completion_object (a0 : Xcompletion) (a1 : Int) : Option Int :=
  (M.impl_index_int64 a0.objects_ a1).bind fun v1 =>
  some v1

def M.impl_Category_completed_1 (a0 : Int) (a1 : Int) (a2 : Xcompletion_q) (a3 : XCategory) : Option Int :=
  (idx a2.arrows_ a0).bind fun y1 =>
  (idx a2.arrows_ a1).bind fun y2 =>
  (M.impl_Category_then a3 y1.E2 y2.E2).bind fun v3 =>
  (M.impl_completion_arrow a2 y1.E0 y2.E1 v3).bind fun v4 =>
  some v4

def M.impl_Category_table_completion (a0 : Xcompletion) (a1 : XCategory) : Option Xcompletion :=
  (M.impl_Category_arrows a0.category_).bind fun v1 =>
  chk ((0 : Int) ≤ v1 ∧ v1 ≤ (lim : Int)) (
    iter (fun (s3 : (List (List Int)) × Int) next4 =>
      if decide (s3.2 < ((List.replicate v1.toNat ([] : List Int)).length : Int)) then
        (idx s3.1 s3.2).bind fun _ =>
        (idx (s3.1.set s3.2.toNat (List.replicate v1.toNat (0 : Int))) s3.2).bind fun y9 =>
        iter (fun (s10 : (List (List Int)) × Int) next11 =>
          if decide (s10.2 < (y9.length : Int)) then
            (idx s10.1 s3.2).bind fun y15 =>
            (idx y15 s10.2).bind fun _ =>
            (idx a0.category_.To s3.2).bind fun y17 =>
            (idx a0.category_.From s10.2).bind fun y18 =>
            if y17 == y18 then
              (idx (s10.1.set s3.2.toNat (y15.set s10.2.toNat (-1))) s3.2).bind fun y20 =>
              (M.impl_Category_completed_1 s3.2 s10.2 (⟨(), (), (), (), (), (), a0.arrows_⟩ : Xcompletion_q) a1).bind fun v21 =>
              (idx y20 s10.2).bind fun _ =>
              next11 ((s10.1.set s3.2.toNat (y15.set s10.2.toNat (-1))).set s3.2.toNat (y20.set s10.2.toNat v21), IntKind.i64.wrap (s10.2 + 1))
            else
              next11 (s10.1.set s3.2.toNat (y15.set s10.2.toNat (-1)), IntKind.i64.wrap (s10.2 + 1))
          else
            next4 (s10.1, IntKind.i64.wrap (s3.2 + 1))) fuel (s3.1.set s3.2.toNat (List.replicate v1.toNat (0 : Int)), 0)
      else
        some (⟨(⟨a0.category_.Objects, a0.category_.From, a0.category_.To, a0.category_.Identity, s3.1⟩ : XCategory), a0.objects_, a0.arrows_⟩ : Xcompletion)) fuel ((List.replicate v1.toNat ([] : List Int)), 0))

def M.impl_Category_completed (a0 : XCategory) : Option (Xcompletion × Bool) :=
  (M.impl_Category_idempotents a0).bind fun v1 =>
  if decide ((v1.length : Int) > 8) then
    some ((⟨⟨0, [], [], [], []⟩, [], []⟩ : Xcompletion), false)
  else
    iter (fun (s3 : (List X3_int64) × Int) next4 =>
      if decide (s3.2 < (v1.length : Int)) then
        (idx v1 s3.2).bind fun y8 =>
        iter (fun (s9 : (List X3_int64) × Int) next10 =>
          if decide (s9.2 < (v1.length : Int)) then
            (idx v1 s9.2).bind fun y14 =>
            (idx a0.From y8).bind fun y15 =>
            (idx a0.From y14).bind fun y16 =>
            (M.impl_Category_hom a0 y15 y16).bind fun v17 =>
            iter (fun (s18 : (List X3_int64) × Int) next19 =>
              if decide (s18.2 < (v17.length : Int)) then
                (idx v17 s18.2).bind fun y23 =>
                (M.impl_Category_then a0 y8 y23).bind fun v24 =>
                (M.impl_Category_then a0 v24 y14).bind fun v25 =>
                if v25 == y23 then
                  chk (s18.1.length + (([(⟨s3.2, s9.2, y23⟩ : X3_int64)] : List X3_int64).length) ≤ lim) (
                    next19 (s18.1 ++ ([(⟨s3.2, s9.2, y23⟩ : X3_int64)] : List X3_int64), IntKind.i64.wrap (s18.2 + 1)))
                else
                  next19 (s18.1, IntKind.i64.wrap (s18.2 + 1))
              else
                next10 (s18.1, IntKind.i64.wrap (s9.2 + 1))) fuel (s9.1, 0)
          else
            next4 (s9.1, IntKind.i64.wrap (s3.2 + 1))) fuel (s3.1, 0)
      else
        if decide ((s3.1.length : Int) > 40) then
          some ((⟨⟨0, [], [], [], []⟩, [], []⟩ : Xcompletion), false)
        else
          chk ((0 : Int) ≤ (v1.length : Int) ∧ (v1.length : Int) ≤ (lim : Int)) (
            iter (fun (s30 : (List Int) × (List Int) × Int) next31 =>
              if decide (s30.2.2 < (s3.1.length : Int)) then
                (idx s3.1 s30.2.2).bind fun y35 =>
                chk (s30.1.length + (([y35.E0] : List Int).length) ≤ lim) (
                  chk (s30.2.1.length + (([y35.E1] : List Int).length) ≤ lim) (
                    next31 (s30.1 ++ ([y35.E0] : List Int), s30.2.1 ++ ([y35.E1] : List Int), IntKind.i64.wrap (s30.2.2 + 1))))
              else
                iter (fun (s38 : (List Int) × Int) next39 =>
                  if decide (s38.2 < (v1.length : Int)) then
                    (idx v1 s38.2).bind fun y43 =>
                    (M.impl_completion_arrow (⟨(), (), (), (), (), (), s3.1⟩ : Xcompletion_q) s38.2 s38.2 y43).bind fun v44 =>
                    (idx s38.1 s38.2).bind fun _ =>
                    next39 (s38.1.set s38.2.toNat v44, IntKind.i64.wrap (s38.2 + 1))
                  else
                    (M.impl_Category_table_completion (⟨(⟨(v1.length : Int), s30.1, s30.2.1, s38.1, []⟩ : XCategory), v1, s3.1⟩ : Xcompletion) a0).bind fun v46 =>
                    some (v46, true)) fuel ((List.replicate (v1.length : Int).toNat (0 : Int)), 0)) fuel (([] : List Int), ([] : List Int), 0))) fuel (([] : List X3_int64), 0)

end Go.Gx

/- Models of the functions. Printed by wip/gen. -/
namespace Go.Gx

def M.spec_CompletionOfFunctor (a0 : XFunctor) : Option (XFunctor × Int) :=
  (M.spec_l06Is a0).bind fun v1 =>
  if v1 then
    (M.spec_l11Complete a0.Source).bind fun v3 =>
    (M.spec_l11Complete a0.Target).bind fun v4 =>
    (M.spec_l02Fits v3.1).bind fun v5 =>
    if v5 then
      (M.spec_l02Fits v4.1).bind fun v7 =>
      if v7 then
        (M.spec_l11Idempotents a0.Source).bind fun v9 =>
        (M.spec_l11Idempotents a0.Target).bind fun v10 =>
        iter (fun (s11 : (List Int) × Int) next12 =>
          if decide (s11.2 < (v9.length : Int)) then
            (idx v9 s11.2).bind fun y16 =>
            (idx a0.Arrows y16).bind fun y17 =>
            (M.spec_l01Index v10 y17).bind fun v18 =>
            chk (s11.1.length + (([v18] : List Int).length) ≤ lim) (
              next12 (s11.1 ++ ([v18] : List Int), IntKind.i64.wrap (s11.2 + 1)))
          else
            iter (fun (s20 : (List Int) × Int) next21 =>
              if decide (s20.2 < (v3.2.length : Int)) then
                (idx v3.2 s20.2).bind fun y25 =>
                (idx y25 0).bind fun y26 =>
                (idx s11.1 y26).bind fun y27 =>
                (idx y25 1).bind fun y28 =>
                (idx s11.1 y28).bind fun y29 =>
                (idx y25 2).bind fun y30 =>
                (idx a0.Arrows y30).bind fun y31 =>
                (M.spec_l09Find v4.2 ([y27, y29, y31] : List Int)).bind fun v32 =>
                chk (s20.1.length + (([v32] : List Int).length) ≤ lim) (
                  next21 (s20.1 ++ ([v32] : List Int), IntKind.i64.wrap (s20.2 + 1)))
              else
                (M.spec_l06Make v3.1 v4.1 s11.1 s20.1).bind fun v34 =>
                some (v34, 0)) fuel (([] : List Int), 0)) fuel (([] : List Int), 0)
      else
        some ((⟨(⟨0, [], [], [], []⟩ : XCategory), (⟨0, [], [], [], []⟩ : XCategory), [], []⟩ : XFunctor), 3)
    else
      some ((⟨(⟨0, [], [], [], []⟩ : XCategory), (⟨0, [], [], [], []⟩ : XCategory), [], []⟩ : XFunctor), 3)
  else
    some ((⟨(⟨0, [], [], [], []⟩ : XCategory), (⟨0, [], [], [], []⟩ : XCategory), [], []⟩ : XFunctor), 1)

def M.impl_CompletionOfFunctor (a0 : XFunctor) : Option (XFunctor × Int) :=
  (M.impl_Functor_isFunctor a0).bind fun v1 =>
  if v1 then
    (M.impl_Category_completed a0.Source).bind fun v3 =>
    if v3.2 then
      (M.impl_Category_completed a0.Target).bind fun v5 =>
      if v5.2 then
        iter (fun (s7 : (List Int) × Int) next8 =>
          if decide (s7.2 < (v3.1.objects_.length : Int)) then
            (idx v3.1.objects_ s7.2).bind fun y12 =>
            (idx a0.Arrows y12).bind fun y13 =>
            (M.impl_completion_object v5.1 y13).bind fun v14 =>
            chk (s7.1.length + (([v14] : List Int).length) ≤ lim) (
              next8 (s7.1 ++ ([v14] : List Int), IntKind.i64.wrap (s7.2 + 1)))
          else
            iter (fun (s16 : (List Int) × Int) next17 =>
              if decide (s16.2 < (v3.1.arrows_.length : Int)) then
                (idx v3.1.arrows_ s16.2).bind fun y21 =>
                (idx s7.1 y21.E0).bind fun y22 =>
                (idx s7.1 y21.E1).bind fun y23 =>
                (idx a0.Arrows y21.E2).bind fun y24 =>
                (M.impl_completion_arrow (⟨(), (), (), (), (), (), v5.1.arrows_⟩ : Xcompletion_q) y22 y23 y24).bind fun v25 =>
                chk (s16.1.length + (([v25] : List Int).length) ≤ lim) (
                  next17 (s16.1 ++ ([v25] : List Int), IntKind.i64.wrap (s16.2 + 1)))
              else
                (M.impl_functor v3.1.category_ v5.1.category_ s7.1 s16.1).bind fun v27 =>
                some (v27, 0)) fuel (([] : List Int), 0)) fuel (([] : List Int), 0)
      else
        some ((⟨(⟨0, [], [], [], []⟩ : XCategory), (⟨0, [], [], [], []⟩ : XCategory), [], []⟩ : XFunctor), 3)
    else
      (M.impl_Category_completed a0.Target).bind fun v28 =>
      if v28.2 then
        some ((⟨(⟨0, [], [], [], []⟩ : XCategory), (⟨0, [], [], [], []⟩ : XCategory), [], []⟩ : XFunctor), 3)
      else
        some ((⟨(⟨0, [], [], [], []⟩ : XCategory), (⟨0, [], [], [], []⟩ : XCategory), [], []⟩ : XFunctor), 3)
  else
    some ((⟨(⟨0, [], [], [], []⟩ : XCategory), (⟨0, [], [], [], []⟩ : XCategory), [], []⟩ : XFunctor), 1)

def M.laws_FnExactCompletionOfFunctor (a0 : XFunctor) : Option Bool :=
  (M.laws_szFunctor a0 1048576).bind fun v1 =>
  if decide (v1 < 0) then
    some true
  else
    (M.laws_toFunctor a0).bind fun v3 =>
    (M.spec_CompletionOfFunctor v3).bind fun v4 =>
    (M.impl_CompletionOfFunctor v3).bind fun v5 =>
    (M.laws_eqFunctor v5.1 v4.1).bind fun v6 =>
    if v6 then
      if v5.2 != v4.2 then
        some false
      else
        (M.laws_eqFunctor v3 v3).bind fun v9 =>
        if v9 then
          (M.laws_markFunctor v3 1).bind fun v11 =>
          if decide (v11.1 < 0) then
            some false
          else
            (M.laws_markFunctor v5.1 1).bind fun v13 =>
            (M.laws_heldFunctor v13.2 1).bind fun v14 =>
            if decide (v14 < 0) then
              some false
            else
              if v14 != v13.1 then
                some false
              else
                some true
        else
          some false
    else
      some false

end Go.Gx

/- Models of the functions. Printed by wip/gen. -/
namespace Go.Gx

end Go.Gx

/- Models of the functions. Printed by wip/gen. -/
namespace Go.Gx

structure XProfunctor where
  Source : XCategory
  Target : XCategory
  Sizes : List (List Int)
  Before : List (List (List Int))
  Behind : List (List (List Int))
def R.XProfunctor (x : XProfunctor) : Prop := (R.XCategory x.Source) ∧ (R.XCategory x.Target) ∧ (AllL (AllL I64) x.Sizes) ∧ (AllL (AllL (AllL I64)) x.Before) ∧ (AllL (AllL (AllL I64)) x.Behind)
end Go.Gx

/- Models of the functions. Printed by wip/gen. -/
namespace Go.Gx

end Go.Gx

/- Models of the functions. Printed by wip/gen. -/
namespace Go.Gx

end Go.Gx

/- Models of the functions. Printed by wip/gen. -/
namespace Go.Gx

end Go.Gx

/- Models of the functions. Printed by wip/gen. -/
namespace Go.Gx

end Go.Gx

/- Models of the functions. Printed by wip/gen. -/
namespace Go.Gx

structure XSetFunctor where
  Shape : XCategory
  Sizes : List Int
  Actions : List (List Int)
def R.XSetFunctor (x : XSetFunctor) : Prop := (R.XCategory x.Shape) ∧ (AllL I64 x.Sizes) ∧ (AllL (AllL I64) x.Actions)
structure XSetMap where
  Source : XSetFunctor
  Target : XSetFunctor
  Parts : List (List Int)
def R.XSetMap (x : XSetMap) : Prop := (R.XSetFunctor x.Source) ∧ (R.XSetFunctor x.Target) ∧ (AllL (AllL I64) x.Parts)
end Go.Gx

/- Models of the functions. Printed by wip/gen. -/
namespace Go.Gx

end Go.Gx

/- Models of the functions. Printed by wip/gen. -/
namespace Go.Gx

end Go.Gx
