/- Laid together: part 0. -/
import Derived.Test.YtfihadfjmbfpgaaGxE1
/- Models of the functions. Printed by wip/gen. -/
namespace Go.Gx

structure XCategory where
  Objects : Int
  From : List Int
  To : List Int
  Identity : List Int
  Composites : List (List Int)
def eXCategory : Enc XCategory := (eA (eC eI XCategory.Objects) (eA (eC (eS eI) XCategory.From) (eA (eC (eS eI) XCategory.To) (eA (eC (eS eI) XCategory.Identity) (eC (eS (eS eI)) XCategory.Composites)))))
def R.XCategory (x : XCategory) : Prop := (I64 x.Objects) ∧ (AllL I64 x.From) ∧ (AllL I64 x.To) ∧ (AllL I64 x.Identity) ∧ (AllL (AllL I64) x.Composites)
theorem eXCategory_nb : EncNb eXCategory := (eA_nb (eC_nb eI_nb _) (eA_nb (eC_nb (eS_nb eI_nb) _) (eA_nb (eC_nb (eS_nb eI_nb) _) (eA_nb (eC_nb (eS_nb eI_nb) _) (eC_nb (eS_nb (eS_nb eI_nb)) _)))))

structure XFunctor where
  Source : XCategory
  Target : XCategory
  Objects : List Int
  Arrows : List Int
def eXFunctor : Enc XFunctor := (eA (eC eXCategory XFunctor.Source) (eA (eC eXCategory XFunctor.Target) (eA (eC (eS eI) XFunctor.Objects) (eC (eS eI) XFunctor.Arrows))))
def R.XFunctor (x : XFunctor) : Prop := (R.XCategory x.Source) ∧ (R.XCategory x.Target) ∧ (AllL I64 x.Objects) ∧ (AllL I64 x.Arrows)
theorem eXFunctor_nb : EncNb eXFunctor := (eA_nb (eC_nb eXCategory_nb _) (eA_nb (eC_nb eXCategory_nb _) (eA_nb (eC_nb (eS_nb eI_nb) _) (eC_nb (eS_nb eI_nb) _))))

structure Xends where
  from_ : Int
  to_ : Int
def eXends : Enc Xends := (eA (eC eI Xends.from_) (eC eI Xends.to_))
def R.Xends (x : Xends) : Prop := (I64 x.from_) ∧ (I64 x.to_)
theorem eXends_nb : EncNb eXends := (eA_nb (eC_nb eI_nb _) (eC_nb eI_nb _))

def M.laws_szInt64S (a0 : List Int) (a1 : Int) : Option Int :=
  if decide ((IntKind.i64.wrap (a1 - (a0.length : Int))) < 0) then
    some (-1)
  else
    some (IntKind.i64.wrap (a1 - (a0.length : Int)))

def M.laws_szInt64SS (a0 : List (List Int)) (a1 : Int) : Option Int :=
  if decide ((IntKind.i64.wrap (a1 - (a0.length : Int))) < 0) then
    some (-1)
  else
    iter (fun (s2 : Int × Int) next3 =>
      if decide (s2.2 < (a0.length : Int)) then
        (idx a0 s2.2).bind fun y7 =>
        (M.laws_szInt64S y7 s2.1).bind fun v8 =>
        if decide (v8 < 0) then
          some (-1)
        else
          next3 (v8, IntKind.i64.wrap (s2.2 + 1))
      else
        some s2.1) fuel (IntKind.i64.wrap (a1 - (a0.length : Int)), 0)

def M.laws_szCategory (a0 : XCategory) (a1 : Int) : Option Int :=
  (M.laws_szInt64S a0.From a1).bind fun v1 =>
  if decide (v1 < 0) then
    some (-1)
  else
    (M.laws_szInt64S a0.To v1).bind fun v3 =>
    if decide (v3 < 0) then
      some (-1)
    else
      (M.laws_szInt64S a0.Identity v3).bind fun v5 =>
      if decide (v5 < 0) then
        some (-1)
      else
        (M.laws_szInt64SS a0.Composites v5).bind fun v7 =>
        if decide (v7 < 0) then
          some (-1)
        else
          some v7

def M.laws_szFunctor (a0 : XFunctor) (a1 : Int) : Option Int :=
  (M.laws_szCategory a0.Source a1).bind fun v1 =>
  if decide (v1 < 0) then
    some (-1)
  else
    (M.laws_szCategory a0.Target v1).bind fun v3 =>
    if decide (v3 < 0) then
      some (-1)
    else
      (M.laws_szInt64S a0.Objects v3).bind fun v5 =>
      if decide (v5 < 0) then
        some (-1)
      else
        (M.laws_szInt64S a0.Arrows v5).bind fun v7 =>
        if decide (v7 < 0) then
          some (-1)
        else
          some v7

def M.spec_l01In (a0 : Int) (a1 : Int) (a2 : Int) : Option Bool :=
  if decide (a0 ≥ a1) then
    some (decide (a0 ≤ a2))
  else
    some false

def M.spec_l01Map (a0 : Int) (a1 : List Int) : Option Bool :=
  iter (fun (s1 : Int) next2 =>
    if decide (s1 < (a1.length : Int)) then
      (idx a1 s1).bind fun y6 =>
      if decide (y6 < 0) then
        some false
      else
        if decide (y6 ≥ a0) then
          some false
        else
          next2 (IntKind.i64.wrap (s1 + 1))
    else
      some true) fuel 0

def M.spec_l02Ends (a0 : List Int) (a1 : Int) (a2 : Int) : Option Bool :=
  if (a0.length : Int) == a1 then
    (M.spec_l01Map a2 a0).bind fun v2 =>
    some v2
  else
    some false

def M.spec_IsShape (a0 : XCategory) : Option Bool :=
  (M.spec_l01In a0.Objects 0 8).bind fun v1 =>
  if v1 then
    if decide ((a0.From.length : Int) > 40) then
      some false
    else
      (M.spec_l02Ends a0.From (a0.From.length : Int) a0.Objects).bind fun v4 =>
      if v4 then
        (M.spec_l02Ends a0.To (a0.From.length : Int) a0.Objects).bind fun v6 =>
        if v6 then
          if (a0.Composites.length : Int) != (a0.From.length : Int) then
            some false
          else
            if (a0.Identity.length : Int) != a0.Objects then
              some false
            else
              (M.spec_l01Map (a0.From.length : Int) a0.Identity).bind fun v10 =>
              if v10 then
                iter (fun (s12 : Int) next13 =>
                  if decide (s12 < a0.Objects) then
                    (idx a0.Identity s12).bind fun y17 =>
                    (idx a0.From y17).bind fun y18 =>
                    if y18 != s12 then
                      some false
                    else
                      (idx a0.To y17).bind fun y20 =>
                      if y20 != s12 then
                        some false
                      else
                        next13 (IntKind.i64.wrap (s12 + 1))
                  else
                    iter (fun (s22 : Int) next23 =>
                      if decide (s22 < (a0.From.length : Int)) then
                        (idx a0.Composites s22).bind fun y27 =>
                        if (y27.length : Int) != (a0.From.length : Int) then
                          some false
                        else
                          iter (fun (s29 : Int) next30 =>
                            if decide (s29 < (a0.From.length : Int)) then
                              (idx y27 s29).bind fun y34 =>
                              (idx a0.To s22).bind fun y35 =>
                              (idx a0.From s29).bind fun y36 =>
                              if y35 != y36 then
                                if y34 != (-1) then
                                  some false
                                else
                                  next30 (IntKind.i64.wrap (s29 + 1))
                              else
                                if decide (y34 < 0) then
                                  some false
                                else
                                  if decide (y34 ≥ (a0.From.length : Int)) then
                                    some false
                                  else
                                    (idx a0.From y34).bind fun y41 =>
                                    (idx a0.From s22).bind fun y42 =>
                                    if y41 != y42 then
                                      some false
                                    else
                                      (idx a0.To y34).bind fun y44 =>
                                      (idx a0.To s29).bind fun y45 =>
                                      if y44 != y45 then
                                        some false
                                      else
                                        next30 (IntKind.i64.wrap (s29 + 1))
                            else
                              next23 (IntKind.i64.wrap (s22 + 1))) fuel 0
                      else
                        some true) fuel 0) fuel 0
              else
                some false
        else
          some false
      else
        some false
  else
    some false

def M.spec_l02Fault (a0 : XCategory) : Option (Int × Int × Int × Int) :=
  iter (fun (s1 : Int) next2 =>
    if decide (s1 < (a0.From.length : Int)) then
      (idx a0.From s1).bind fun y6 =>
      (idx a0.Identity y6).bind fun y7 =>
      (idx a0.Composites y7).bind fun y8 =>
      (idx y8 s1).bind fun y9 =>
      if y9 != s1 then
        some (1, s1, 0, 0)
      else
        (idx a0.Composites s1).bind fun y11 =>
        (idx a0.To s1).bind fun y12 =>
        (idx a0.Identity y12).bind fun y13 =>
        (idx y11 y13).bind fun y14 =>
        if y14 != s1 then
          some (1, s1, 0, 0)
        else
          next2 (IntKind.i64.wrap (s1 + 1))
    else
      iter (fun (s16 : Int) next17 =>
        if decide (s16 < (a0.From.length : Int)) then
          iter (fun (s21 : Int) next22 =>
            if decide (s21 < (a0.From.length : Int)) then
              (idx a0.To s16).bind fun y26 =>
              (idx a0.From s21).bind fun y27 =>
              if y26 != y27 then
                next22 (IntKind.i64.wrap (s21 + 1))
              else
                iter (fun (s29 : Int) next30 =>
                  if decide (s29 < (a0.From.length : Int)) then
                    (idx a0.To s21).bind fun y34 =>
                    (idx a0.From s29).bind fun y35 =>
                    if y34 == y35 then
                      (idx a0.Composites s16).bind fun y37 =>
                      (idx y37 s21).bind fun y38 =>
                      (idx a0.Composites y38).bind fun y39 =>
                      (idx y39 s29).bind fun y40 =>
                      (idx a0.Composites s21).bind fun y41 =>
                      (idx y41 s29).bind fun y42 =>
                      (idx y37 y42).bind fun y43 =>
                      if y40 != y43 then
                        some (2, s16, s21, s29)
                      else
                        next30 (IntKind.i64.wrap (s29 + 1))
                    else
                      next30 (IntKind.i64.wrap (s29 + 1))
                  else
                    next22 (IntKind.i64.wrap (s21 + 1))) fuel 0
            else
              next17 (IntKind.i64.wrap (s16 + 1))) fuel 0
        else
          some (0, 0, 0, 0)) fuel 0) fuel 0

def M.spec_l02Is (a0 : XCategory) : Option Bool :=
  (M.spec_IsShape a0).bind fun v1 =>
  if v1 then
    (M.spec_l02Fault a0).bind fun v3 =>
    some (v3.1 == 0)
  else
    some false

def M.spec_l06Is (a0 : XFunctor) : Option Bool :=
  (M.spec_l02Is a0.Source).bind fun v1 =>
  if v1 then
    (M.spec_l02Is a0.Target).bind fun v3 =>
    if v3 then
      if (a0.Objects.length : Int) != a0.Source.Objects then
        some false
      else
        if (a0.Arrows.length : Int) != (a0.Source.From.length : Int) then
          some false
        else
          (M.spec_l01Map a0.Target.Objects a0.Objects).bind fun v7 =>
          if v7 then
            (M.spec_l01Map (a0.Target.From.length : Int) a0.Arrows).bind fun v9 =>
            if v9 then
              iter (fun (s11 : Int) next12 =>
                if decide (s11 < (a0.Source.From.length : Int)) then
                  (idx a0.Arrows s11).bind fun y16 =>
                  (idx a0.Target.From y16).bind fun y17 =>
                  (idx a0.Source.From s11).bind fun y18 =>
                  (idx a0.Objects y18).bind fun y19 =>
                  if y17 != y19 then
                    some false
                  else
                    (idx a0.Target.To y16).bind fun y21 =>
                    (idx a0.Source.To s11).bind fun y22 =>
                    (idx a0.Objects y22).bind fun y23 =>
                    if y21 != y23 then
                      some false
                    else
                      next12 (IntKind.i64.wrap (s11 + 1))
                else
                  iter (fun (s25 : Int) next26 =>
                    if decide (s25 < a0.Source.Objects) then
                      (idx a0.Source.Identity s25).bind fun y30 =>
                      (idx a0.Arrows y30).bind fun y31 =>
                      (idx a0.Objects s25).bind fun y32 =>
                      (idx a0.Target.Identity y32).bind fun y33 =>
                      if y31 != y33 then
                        some false
                      else
                        next26 (IntKind.i64.wrap (s25 + 1))
                    else
                      iter (fun (s35 : Int) next36 =>
                        if decide (s35 < (a0.Source.From.length : Int)) then
                          iter (fun (s40 : Int) next41 =>
                            if decide (s40 < (a0.Source.From.length : Int)) then
                              (idx a0.Source.To s35).bind fun y45 =>
                              (idx a0.Source.From s40).bind fun y46 =>
                              if y45 == y46 then
                                (idx a0.Source.Composites s35).bind fun y48 =>
                                (idx y48 s40).bind fun y49 =>
                                (idx a0.Arrows y49).bind fun y50 =>
                                (idx a0.Arrows s35).bind fun y51 =>
                                (idx a0.Target.Composites y51).bind fun y52 =>
                                (idx a0.Arrows s40).bind fun y53 =>
                                (idx y52 y53).bind fun y54 =>
                                if y50 != y54 then
                                  some false
                                else
                                  next41 (IntKind.i64.wrap (s40 + 1))
                              else
                                next41 (IntKind.i64.wrap (s40 + 1))
                            else
                              next36 (IntKind.i64.wrap (s35 + 1))) fuel 0
                        else
                          some true) fuel 0) fuel 0) fuel 0
            else
              some false
          else
            some false
    else
      some false
  else
    some false

def M.spec_l01Own (a0 : List Int) : Option (List Int) :=
  chk (([] : List Int).length + a0.length ≤ lim) (
    some (([] : List Int) ++ a0))

def M.spec_l01Own2 (a0 : List (List Int)) : Option (List (List Int)) :=
  iter (fun (s1 : (List (List Int)) × Int) next2 =>
    if decide (s1.2 < (a0.length : Int)) then
      (idx a0 s1.2).bind fun y6 =>
      (M.spec_l01Own y6).bind fun v7 =>
      chk (s1.1.length + 1 ≤ lim) (
        next2 (s1.1 ++ [v7], IntKind.i64.wrap (s1.2 + 1)))
    else
      some s1.1) fuel (([] : List (List Int)), 0)

def M.spec_l02Own (a0 : XCategory) : Option XCategory :=
  (M.spec_l01Own a0.From).bind fun v1 =>
  (M.spec_l01Own a0.To).bind fun v2 =>
  (M.spec_l01Own a0.Identity).bind fun v3 =>
  (M.spec_l01Own2 a0.Composites).bind fun v4 =>
  some (⟨a0.Objects, v1, v2, v3, v4⟩ : XCategory)

def M.spec_l06Make (a0 : XCategory) (a1 : XCategory) (a2 : List Int) (a3 : List Int) : Option XFunctor :=
  (M.spec_l02Own a0).bind fun v1 =>
  (M.spec_l02Own a1).bind fun v2 =>
  (M.spec_l01Own a2).bind fun v3 =>
  (M.spec_l01Own a3).bind fun v4 =>
  some (⟨v1, v2, v3, v4⟩ : XFunctor)

def M.laws_toInt64S (a0 : List Int) : Option (List Int) :=
  chk ((0 : Int) ≤ (a0.length : Int) ∧ (a0.length : Int) ≤ (lim : Int)) (
    iter (fun (s2 : (List Int) × Int) next3 =>
      if decide (s2.2 < (a0.length : Int)) then
        (idx a0 s2.2).bind fun y7 =>
        (idx s2.1 s2.2).bind fun _ =>
        next3 (s2.1.set s2.2.toNat y7, IntKind.i64.wrap (s2.2 + 1))
      else
        some s2.1) fuel ((List.replicate (a0.length : Int).toNat (0 : Int)), 0))

def M.laws_toInt64SS (a0 : List (List Int)) : Option (List (List Int)) :=
  chk ((0 : Int) ≤ (a0.length : Int) ∧ (a0.length : Int) ≤ (lim : Int)) (
    iter (fun (s2 : (List (List Int)) × Int) next3 =>
      if decide (s2.2 < (a0.length : Int)) then
        (idx a0 s2.2).bind fun y7 =>
        (M.laws_toInt64S y7).bind fun v8 =>
        (idx s2.1 s2.2).bind fun _ =>
        next3 (s2.1.set s2.2.toNat v8, IntKind.i64.wrap (s2.2 + 1))
      else
        some s2.1) fuel ((List.replicate (a0.length : Int).toNat ([] : List Int)), 0))

def M.laws_toCategory (a0 : XCategory) : Option XCategory :=
  (M.laws_toInt64S a0.From).bind fun v1 =>
  (M.laws_toInt64S a0.To).bind fun v2 =>
  (M.laws_toInt64S a0.Identity).bind fun v3 =>
  (M.laws_toInt64SS a0.Composites).bind fun v4 =>
  some (⟨a0.Objects, v1, v2, v3, v4⟩ : XCategory)

def M.laws_toFunctor (a0 : XFunctor) : Option XFunctor :=
  (M.laws_toCategory a0.Source).bind fun v1 =>
  (M.laws_toCategory a0.Target).bind fun v2 =>
  (M.laws_toInt64S a0.Objects).bind fun v3 =>
  (M.laws_toInt64S a0.Arrows).bind fun v4 =>
  some (⟨v1, v2, v3, v4⟩ : XFunctor)

def M.impl_Category_arrows (a0 : XCategory) : Option Int :=
  some (a0.From.length : Int)

def M.impl_inRange (a0 : Int) (a1 : Int) (a2 : Int) : Option Bool :=
  if decide (a0 ≥ a1) then
    some (decide (a0 ≤ a2))
  else
    some false

def M.impl_within (a0 : List Int) (a1 : Int) : Option Bool :=
  iter (fun (s1 : Int) next2 =>
    if decide (s1 < (a0.length : Int)) then
      (idx a0 s1).bind fun y6 =>
      (M.impl_inRange y6 0 (IntKind.i64.wrap (a1 - 1))).bind fun v7 =>
      if v7 then
        next2 (IntKind.i64.wrap (s1 + 1))
      else
        some false
    else
      some true) fuel 0

def M.impl_Category_ends (a0 : XCategory) (a1 : Int) : Option Xends :=
  (idx a0.From a1).bind fun y1 =>
  (idx a0.To a1).bind fun y2 =>
  some (⟨y1, y2⟩ : Xends)

def M.impl_Category_isShape (a0 : XCategory) : Option Bool :=
  (M.impl_Category_arrows a0).bind fun v1 =>
  (M.impl_inRange a0.Objects 0 8).bind fun v2 =>
  if v2 then
    if decide (v1 > 40) then
      some false
    else
      if (a0.To.length : Int) != v1 then
        some false
      else
        (M.impl_within a0.From a0.Objects).bind fun v6 =>
        if v6 then
          (M.impl_within a0.To a0.Objects).bind fun v8 =>
          if v8 then
            if (a0.Identity.length : Int) != a0.Objects then
              some false
            else
              (M.impl_within a0.Identity v1).bind fun v11 =>
              if v11 then
                if (a0.Composites.length : Int) != v1 then
                  some false
                else
                  iter (fun (s14 : Int) next15 =>
                    if decide (s14 < (a0.Identity.length : Int)) then
                      (idx a0.Identity s14).bind fun y19 =>
                      (M.impl_Category_ends a0 y19).bind fun v20 =>
                      if ((v20.from_ == s14) && (v20.to_ == s14)) == false then
                        some false
                      else
                        next15 (IntKind.i64.wrap (s14 + 1))
                    else
                      iter (fun (s22 : Int) next23 =>
                        if decide (s22 < (a0.Composites.length : Int)) then
                          (idx a0.Composites s22).bind fun y27 =>
                          if (y27.length : Int) != v1 then
                            some false
                          else
                            iter (fun (s29 : Int) next30 =>
                              if decide (s29 < (y27.length : Int)) then
                                (idx y27 s29).bind fun y34 =>
                                (idx a0.To s22).bind fun y35 =>
                                (idx a0.From s29).bind fun y36 =>
                                if y35 != y36 then
                                  if y34 != (-1) then
                                    some false
                                  else
                                    next30 (IntKind.i64.wrap (s29 + 1))
                                else
                                  (M.impl_inRange y34 0 (IntKind.i64.wrap (v1 - 1))).bind fun v39 =>
                                  if v39 then
                                    (M.impl_Category_ends a0 y34).bind fun v41 =>
                                    (idx a0.From s22).bind fun y42 =>
                                    (idx a0.To s29).bind fun y43 =>
                                    if ((v41.from_ == y42) && (v41.to_ == y43)) == false then
                                      some false
                                    else
                                      next30 (IntKind.i64.wrap (s29 + 1))
                                  else
                                    some false
                              else
                                next23 (IntKind.i64.wrap (s22 + 1))) fuel 0
                        else
                          some true) fuel 0) fuel 0
              else
                some false
          else
            some false
        else
          some false
  else
    some false

def M.impl_Category_then (a0 : XCategory) (a1 : Int) (a2 : Int) : Option Int :=
  (idx a0.Composites a1).bind fun y1 =>
  (idx y1 a2).bind fun y2 =>
  some y2

def M.impl_Category_fault (a0 : XCategory) : Option (Int × Int × Int × Int) :=
  (M.impl_Category_arrows a0).bind fun v1 =>
  iter (fun (s2 : Int) next3 =>
    if decide (s2 < v1) then
      (idx a0.From s2).bind fun y7 =>
      (idx a0.Identity y7).bind fun y8 =>
      (M.impl_Category_then a0 y8 s2).bind fun v9 =>
      if v9 != s2 then
        some (1, s2, 0, 0)
      else
        (idx a0.To s2).bind fun y11 =>
        (idx a0.Identity y11).bind fun y12 =>
        (M.impl_Category_then a0 s2 y12).bind fun v13 =>
        if v13 != s2 then
          some (1, s2, 0, 0)
        else
          next3 (IntKind.i64.wrap (s2 + 1))
    else
      iter (fun (s15 : Int) next16 =>
        if decide (s15 < v1) then
          iter (fun (s20 : Int) next21 =>
            if decide (s20 < v1) then
              (M.impl_Category_then a0 s15 s20).bind fun v25 =>
              if decide (v25 < 0) then
                next21 (IntKind.i64.wrap (s20 + 1))
              else
                iter (fun (s27 : Int) next28 =>
                  if decide (s27 < v1) then
                    (M.impl_Category_then a0 s20 s27).bind fun v32 =>
                    if decide (v32 ≥ 0) then
                      (M.impl_Category_then a0 v25 s27).bind fun v34 =>
                      (M.impl_Category_then a0 s15 v32).bind fun v35 =>
                      if v34 != v35 then
                        some (2, s15, s20, s27)
                      else
                        next28 (IntKind.i64.wrap (s27 + 1))
                    else
                      next28 (IntKind.i64.wrap (s27 + 1))
                  else
                    next21 (IntKind.i64.wrap (s20 + 1))) fuel 0
            else
              next16 (IntKind.i64.wrap (s15 + 1))) fuel 0
        else
          some (0, 0, 0, 0)) fuel 0) fuel 0

def M.impl_Category_isCategory (a0 : XCategory) : Option Bool :=
  (M.impl_Category_isShape a0).bind fun v1 =>
  if v1 then
    (M.impl_Category_fault a0).bind fun v3 =>
    some (v3.1 == 0)
  else
    some false

def M.impl_areCategories (a0 : List XCategory) : Option Bool :=
  iter (fun (s1 : Int) next2 =>
    if decide (s1 < (a0.length : Int)) then
      (idx a0 s1).bind fun y6 =>
      (M.impl_Category_isCategory y6).bind fun v7 =>
      if v7 then
        next2 (IntKind.i64.wrap (s1 + 1))
      else
        some false
    else
      some true) fuel 0

def M.impl_Functor_fits (a0 : XFunctor) : Option Bool :=
  if (a0.Objects.length : Int) != a0.Source.Objects then
    some false
  else
    (M.impl_Category_arrows a0.Source).bind fun v2 =>
    if (a0.Arrows.length : Int) != v2 then
      some false
    else
      (M.impl_within a0.Objects a0.Target.Objects).bind fun v4 =>
      if v4 then
        (M.impl_Category_arrows a0.Target).bind fun v6 =>
        (M.impl_within a0.Arrows v6).bind fun v7 =>
        if v7 then
          iter (fun (s9 : Int) next10 =>
            if decide (s9 < (a0.Arrows.length : Int)) then
              (idx a0.Arrows s9).bind fun y14 =>
              (idx a0.Target.From y14).bind fun y15 =>
              (idx a0.Source.From s9).bind fun y16 =>
              (idx a0.Objects y16).bind fun y17 =>
              if y15 != y17 then
                some false
              else
                (idx a0.Target.To y14).bind fun y19 =>
                (idx a0.Source.To s9).bind fun y20 =>
                (idx a0.Objects y20).bind fun y21 =>
                if y19 != y21 then
                  some false
                else
                  next10 (IntKind.i64.wrap (s9 + 1))
            else
              iter (fun (s23 : Int) next24 =>
                if decide (s23 < (a0.Source.Identity.length : Int)) then
                  (idx a0.Source.Identity s23).bind fun y28 =>
                  (idx a0.Arrows y28).bind fun y29 =>
                  (idx a0.Objects s23).bind fun y30 =>
                  (idx a0.Target.Identity y30).bind fun y31 =>
                  if y29 != y31 then
                    some false
                  else
                    next24 (IntKind.i64.wrap (s23 + 1))
                else
                  iter (fun (s33 : Int) next34 =>
                    if decide (s33 < (a0.Source.Composites.length : Int)) then
                      (idx a0.Source.Composites s33).bind fun y38 =>
                      iter (fun (s39 : Int) next40 =>
                        if decide (s39 < (y38.length : Int)) then
                          (idx y38 s39).bind fun y44 =>
                          if decide (y44 ≥ 0) then
                            (idx a0.Arrows y44).bind fun y46 =>
                            (idx a0.Arrows s33).bind fun y47 =>
                            (idx a0.Arrows s39).bind fun y48 =>
                            (M.impl_Category_then a0.Target y47 y48).bind fun v49 =>
                            if y46 != v49 then
                              some false
                            else
                              next40 (IntKind.i64.wrap (s39 + 1))
                          else
                            next40 (IntKind.i64.wrap (s39 + 1))
                        else
                          next34 (IntKind.i64.wrap (s33 + 1))) fuel 0
                    else
                      some true) fuel 0) fuel 0) fuel 0
        else
          some false
      else
        some false

def M.impl_Functor_isFunctor (a0 : XFunctor) : Option Bool :=
  (M.impl_areCategories ([a0.Source, a0.Target] : List XCategory)).bind fun v1 =>
  if v1 then
    (M.impl_Functor_fits a0).bind fun v3 =>
    some v3
  else
    some false

def M.impl_clone (a0 : List Int) : Option (List Int) :=
  chk (([] : List Int).length + a0.length ≤ lim) (
    some (([] : List Int) ++ a0))

def M.impl_clones (a0 : List (List Int)) : Option (List (List Int)) :=
  chk ((0 : Int) ≤ (a0.length : Int) ∧ (a0.length : Int) ≤ (lim : Int)) (
    iter (fun (s2 : (List (List Int)) × Int) next3 =>
      if decide (s2.2 < (a0.length : Int)) then
        (idx a0 s2.2).bind fun y7 =>
        (M.impl_clone y7).bind fun v8 =>
        chk (s2.1.length + 1 ≤ lim) (
          next3 (s2.1 ++ [v8], IntKind.i64.wrap (s2.2 + 1)))
      else
        some s2.1) fuel (([] : List (List Int)), 0))

def M.impl_Category_copy (a0 : XCategory) : Option XCategory :=
  (M.impl_clone a0.From).bind fun v1 =>
  (M.impl_clone a0.To).bind fun v2 =>
  (M.impl_clone a0.Identity).bind fun v3 =>
  (M.impl_clones a0.Composites).bind fun v4 =>
  some (⟨a0.Objects, v1, v2, v3, v4⟩ : XCategory)

def M.impl_functor (a0 : XCategory) (a1 : XCategory) (a2 : List Int) (a3 : List Int) : Option XFunctor :=
  (M.impl_Category_copy a0).bind fun v1 =>
  (M.impl_Category_copy a1).bind fun v2 =>
  (M.impl_clone a2).bind fun v3 =>
  (M.impl_clone a3).bind fun v4 =>
  some (⟨v1, v2, v3, v4⟩ : XFunctor)

def M.laws_eqInt64S (a0 : List Int) (a1 : List Int) : Option Bool :=
  if (a0.length : Int) != (a1.length : Int) then
    some false
  else
    iter (fun (s2 : Int) next3 =>
      if decide (s2 < (a0.length : Int)) then
        (idx a0 s2).bind fun y7 =>
        (idx a1 s2).bind fun y8 =>
        if y7 != y8 then
          some false
        else
          next3 (IntKind.i64.wrap (s2 + 1))
      else
        some true) fuel 0

def M.laws_eqInt64SS (a0 : List (List Int)) (a1 : List (List Int)) : Option Bool :=
  if (a0.length : Int) != (a1.length : Int) then
    some false
  else
    iter (fun (s2 : Int) next3 =>
      if decide (s2 < (a0.length : Int)) then
        (idx a0 s2).bind fun y7 =>
        (idx a1 s2).bind fun y8 =>
        (M.laws_eqInt64S y7 y8).bind fun v9 =>
        if v9 then
          next3 (IntKind.i64.wrap (s2 + 1))
        else
          some false
      else
        some true) fuel 0

def M.laws_eqCategory (a0 : XCategory) (a1 : XCategory) : Option Bool :=
  if a0.Objects != a1.Objects then
    some false
  else
    (M.laws_eqInt64S a0.From a1.From).bind fun v2 =>
    if v2 then
      (M.laws_eqInt64S a0.To a1.To).bind fun v4 =>
      if v4 then
        (M.laws_eqInt64S a0.Identity a1.Identity).bind fun v6 =>
        if v6 then
          (M.laws_eqInt64SS a0.Composites a1.Composites).bind fun v8 =>
          if v8 then
            some true
          else
            some false
        else
          some false
      else
        some false
    else
      some false

def M.laws_eqFunctor (a0 : XFunctor) (a1 : XFunctor) : Option Bool :=
  (M.laws_eqCategory a0.Source a1.Source).bind fun v1 =>
  if v1 then
    (M.laws_eqCategory a0.Target a1.Target).bind fun v3 =>
    if v3 then
      (M.laws_eqInt64S a0.Objects a1.Objects).bind fun v5 =>
      if v5 then
        (M.laws_eqInt64S a0.Arrows a1.Arrows).bind fun v7 =>
        if v7 then
          some true
        else
          some false
      else
        some false
    else
      some false
  else
    some false

end Go.Gx

/- Models of the functions. Printed by wip/gen. -/
namespace Go.Gx

structure XTransformation where
  Source : XFunctor
  Target : XFunctor
  Components : List Int
def eXTransformation : Enc XTransformation := (eA (eC eXFunctor XTransformation.Source) (eA (eC eXFunctor XTransformation.Target) (eC (eS eI) XTransformation.Components)))
def R.XTransformation (x : XTransformation) : Prop := (R.XFunctor x.Source) ∧ (R.XFunctor x.Target) ∧ (AllL I64 x.Components)
def M.spec_l01Then (a0 : List Int) (a1 : List Int) : Option (List Int) :=
  iter (fun (s1 : (List Int) × Int) next2 =>
    if decide (s1.2 < (a0.length : Int)) then
      (idx a0 s1.2).bind fun y6 =>
      (idx a1 y6).bind fun y7 =>
      chk (s1.1.length + (([y7] : List Int).length) ≤ lim) (
        next2 (s1.1 ++ ([y7] : List Int), IntKind.i64.wrap (s1.2 + 1)))
    else
      some s1.1) fuel (([] : List Int), 0)

def M.impl_then (a0 : List Int) (a1 : List Int) : Option (List Int) :=
  chk ((0 : Int) ≤ (a0.length : Int) ∧ (a0.length : Int) ≤ (lim : Int)) (
    iter (fun (s2 : (List Int) × Int) next3 =>
      if decide (s2.2 < (a0.length : Int)) then
        (idx a0 s2.2).bind fun y7 =>
        (idx a1 y7).bind fun y8 =>
        (idx s2.1 s2.2).bind fun _ =>
        next3 (s2.1.set s2.2.toNat y8, IntKind.i64.wrap (s2.2 + 1))
      else
        some s2.1) fuel ((List.replicate (a0.length : Int).toNat (0 : Int)), 0))

end Go.Gx

/- Models of the functions. Printed by wip/gen. -/
namespace Go.Gx

def M.spec_l01Same (a0 : List Int) (a1 : List Int) : Option Bool :=
  if (a0.length : Int) != (a1.length : Int) then
    some false
  else
    iter (fun (s2 : Int) next3 =>
      if decide (s2 < (a0.length : Int)) then
        (idx a0 s2).bind fun y7 =>
        (idx a1 s2).bind fun y8 =>
        if y7 != y8 then
          some false
        else
          next3 (IntKind.i64.wrap (s2 + 1))
      else
        some true) fuel 0

def M.spec_l01Same2 (a0 : List (List Int)) (a1 : List (List Int)) : Option Bool :=
  if (a0.length : Int) != (a1.length : Int) then
    some false
  else
    iter (fun (s2 : Int) next3 =>
      if decide (s2 < (a0.length : Int)) then
        (idx a0 s2).bind fun y7 =>
        (idx a1 s2).bind fun y8 =>
        (M.spec_l01Same y7 y8).bind fun v9 =>
        if v9 then
          next3 (IntKind.i64.wrap (s2 + 1))
        else
          some false
      else
        some true) fuel 0

def M.spec_l02Same (a0 : XCategory) (a1 : XCategory) : Option Bool :=
  if a0.Objects == a1.Objects then
    (M.spec_l01Same a0.From a1.From).bind fun v2 =>
    if v2 then
      (M.spec_l01Same a0.To a1.To).bind fun v4 =>
      if v4 then
        (M.spec_l01Same a0.Identity a1.Identity).bind fun v6 =>
        if v6 then
          (M.spec_l01Same2 a0.Composites a1.Composites).bind fun v8 =>
          some v8
        else
          some false
      else
        some false
    else
      some false
  else
    some false

def M.spec_l06Then (a0 : XFunctor) (a1 : XFunctor) : Option XFunctor :=
  (M.spec_l01Then a0.Objects a1.Objects).bind fun v1 =>
  (M.spec_l01Then a0.Arrows a1.Arrows).bind fun v2 =>
  (M.spec_l06Make a0.Source a1.Target v1 v2).bind fun v3 =>
  some v3

def M.impl_areFunctors (a0 : List XFunctor) : Option Bool :=
  iter (fun (s1 : Int) next2 =>
    if decide (s1 < (a0.length : Int)) then
      (idx a0 s1).bind fun y6 =>
      (M.impl_Functor_isFunctor y6).bind fun v7 =>
      if v7 then
        next2 (IntKind.i64.wrap (s1 + 1))
      else
        some false
    else
      some true) fuel 0

def M.impl_compare (a0 : List Int) (a1 : List Int) : Option Int :=
  iter (fun (s1 : Int) next2 =>
    if decide (s1 < (a0.length : Int)) then
      if s1 == (a1.length : Int) then
        some 1
      else
        (idx a0 s1).bind fun y7 =>
        (idx a1 s1).bind fun y8 =>
        if y7 != y8 then
          if decide (y7 < y8) then
            some (-1)
          else
            some 1
        else
          next2 (IntKind.i64.wrap (s1 + 1))
    else
      if decide ((a0.length : Int) < (a1.length : Int)) then
        some (-1)
      else
        some 0) fuel 0

def M.impl_same (a0 : List Int) (a1 : List Int) : Option Bool :=
  (M.impl_compare a0 a1).bind fun v1 =>
  some (v1 == 0)

def M.impl_sameCategory (a0 : XCategory) (a1 : XCategory) : Option Bool :=
  if a0.Objects != a1.Objects then
    some false
  else
    (M.impl_same a0.From a1.From).bind fun v2 =>
    if v2 then
      (M.impl_same a0.To a1.To).bind fun v4 =>
      if v4 then
        (M.impl_same a0.Identity a1.Identity).bind fun v6 =>
        if v6 then
          if (a0.Composites.length : Int) != (a1.Composites.length : Int) then
            some false
          else
            iter (fun (s9 : Int) next10 =>
              if decide (s9 < (a0.Composites.length : Int)) then
                (idx a0.Composites s9).bind fun y14 =>
                (idx a1.Composites s9).bind fun y15 =>
                (M.impl_same y14 y15).bind fun v16 =>
                if v16 then
                  next10 (IntKind.i64.wrap (s9 + 1))
                else
                  some false
              else
                some true) fuel 0
        else
          some false
      else
        some false
    else
      some false

def M.impl_parallelFunctors (a0 : XFunctor) (a1 : XFunctor) : Option Bool :=
  (M.impl_sameCategory a0.Source a1.Source).bind fun v1 =>
  if v1 then
    (M.impl_sameCategory a0.Target a1.Target).bind fun v3 =>
    some v3
  else
    some false

def M.impl_Transformation_isShape (a0 : XTransformation) : Option Bool :=
  (M.impl_areFunctors ([a0.Source, a0.Target] : List XFunctor)).bind fun v1 =>
  if v1 then
    (M.impl_parallelFunctors a0.Source a0.Target).bind fun v3 =>
    if v3 then
      if (a0.Components.length : Int) != a0.Source.Source.Objects then
        some false
      else
        (M.impl_Category_arrows a0.Source.Target).bind fun v6 =>
        (M.impl_within a0.Components v6).bind fun v7 =>
        if v7 then
          iter (fun (s9 : Int) next10 =>
            if decide (s9 < (a0.Components.length : Int)) then
              (idx a0.Components s9).bind fun y14 =>
              (M.impl_Category_ends a0.Source.Target y14).bind fun v15 =>
              (idx a0.Source.Objects s9).bind fun y16 =>
              (idx a0.Target.Objects s9).bind fun y17 =>
              if ((v15.from_ == y16) && (v15.to_ == y17)) == false then
                some false
              else
                next10 (IntKind.i64.wrap (s9 + 1))
            else
              some true) fuel 0
        else
          some false
    else
      some false
  else
    some false

def M.impl_firstFailure (a0 : XTransformation) (a1 : XFunctor → XFunctor → (List Int) → Int → Option Bool) : Option Int :=
  iter (fun (s1 : Int) next2 =>
    if decide (s1 < (a0.Source.Arrows.length : Int)) then
      (a1 a0.Source a0.Target a0.Components s1).bind fun v6 =>
      if v6 then
        next2 (IntKind.i64.wrap (s1 + 1))
      else
        some s1
    else
      some (-1)) fuel 0

def M.impl_commutes (a0 : XFunctor) (a1 : XFunctor) (a2 : List Int) (a3 : Int) : Option Bool :=
  (idx a0.Arrows a3).bind fun y1 =>
  (idx a0.Source.To a3).bind fun y2 =>
  (idx a2 y2).bind fun y3 =>
  (M.impl_Category_then a0.Target y1 y3).bind fun v4 =>
  (idx a0.Source.From a3).bind fun y5 =>
  (idx a2 y5).bind fun y6 =>
  (idx a1.Arrows a3).bind fun y7 =>
  (M.impl_Category_then a0.Target y6 y7).bind fun v8 =>
  some (v4 == v8)

def M.impl_Transformation_isNatural (a0 : XTransformation) : Option Bool :=
  (M.impl_Transformation_isShape a0).bind fun v1 =>
  if v1 then
    (M.impl_firstFailure a0 (fun (x0 : XFunctor) (x1 : XFunctor) (x2 : List Int) (x3 : Int) => M.impl_commutes x0 x1 x2 x3)).bind fun v3 =>
    some (decide (v3 < 0))
  else
    some false

def M.impl_areNatural (a0 : List XTransformation) : Option Bool :=
  iter (fun (s1 : Int) next2 =>
    if decide (s1 < (a0.length : Int)) then
      (idx a0 s1).bind fun y6 =>
      (M.impl_Transformation_isNatural y6).bind fun v7 =>
      if v7 then
        next2 (IntKind.i64.wrap (s1 + 1))
      else
        some false
    else
      some true) fuel 0

def M.impl_Functor_then (a0 : XFunctor) (a1 : XFunctor) : Option XFunctor :=
  (M.impl_then a0.Objects a1.Objects).bind fun v1 =>
  (M.impl_then a0.Arrows a1.Arrows).bind fun v2 =>
  (M.impl_functor a0.Source a1.Target v1 v2).bind fun v3 =>
  some v3

end Go.Gx

/- Models of the functions. Printed by wip/gen. -/
namespace Go.Gx

def M.spec_l06Self (a0 : XCategory) : Option XFunctor :=
  iter (fun (s1 : (List Int) × Int) next2 =>
    if decide (s1.2 < a0.Objects) then
      chk (s1.1.length + (([s1.2] : List Int).length) ≤ lim) (
        next2 (s1.1 ++ ([s1.2] : List Int), IntKind.i64.wrap (s1.2 + 1)))
    else
      iter (fun (s7 : (List Int) × Int) next8 =>
        if decide (s7.2 < (a0.From.length : Int)) then
          chk (s7.1.length + (([s7.2] : List Int).length) ≤ lim) (
            next8 (s7.1 ++ ([s7.2] : List Int), IntKind.i64.wrap (s7.2 + 1)))
        else
          (M.spec_l06Make a0 a0 s1.1 s7.1).bind fun v13 =>
          some v13) fuel (([] : List Int), 0)) fuel (([] : List Int), 0)

def M.impl_numbers (a0 : Int) : Option (List Int) :=
  chk ((0 : Int) ≤ a0 ∧ a0 ≤ (lim : Int)) (
    iter (fun (s2 : (List Int) × Int) next3 =>
      if decide (s2.2 < ((List.replicate a0.toNat (0 : Int)).length : Int)) then
        (idx s2.1 s2.2).bind fun _ =>
        next3 (s2.1.set s2.2.toNat s2.2, IntKind.i64.wrap (s2.2 + 1))
      else
        some s2.1) fuel ((List.replicate a0.toNat (0 : Int)), 0))

def M.impl_identity (a0 : XCategory) : Option XFunctor :=
  (M.impl_numbers a0.Objects).bind fun v1 =>
  (M.impl_Category_arrows a0).bind fun v2 =>
  (M.impl_numbers v2).bind fun v3 =>
  (M.impl_functor a0 a0 v1 v3).bind fun v4 =>
  some v4

def M.spec_l02Then (a0 : XCategory) (a1 : Int) (a2 : Int) : Option Int :=
  (idx a0.Composites a1).bind fun y1 =>
  (idx y1 a2).bind fun y2 =>
  some y2

end Go.Gx

/- Models of the functions. Printed by wip/gen. -/
namespace Go.Gx

def M.spec_l02Unit (a0 : XCategory) (a1 : Int) : Option Bool :=
  (idx a0.From a1).bind fun y1 =>
  (idx a0.Identity y1).bind fun y2 =>
  some (y2 == a1)

def M.spec_l15Natural (a0 : XFunctor) (a1 : XFunctor) (a2 : List Int) : Option Bool :=
  if (a2.length : Int) != (a0.Objects.length : Int) then
    some false
  else
    (M.spec_l01Map (a0.Target.From.length : Int) a2).bind fun v2 =>
    if v2 then
      iter (fun (s4 : Int) next5 =>
        if decide (s4 < (a2.length : Int)) then
          (idx a2 s4).bind fun y9 =>
          (idx a0.Target.From y9).bind fun y10 =>
          (idx a0.Objects s4).bind fun y11 =>
          if y10 != y11 then
            some false
          else
            (idx a0.Target.To y9).bind fun y13 =>
            (idx a1.Objects s4).bind fun y14 =>
            if y13 != y14 then
              some false
            else
              next5 (IntKind.i64.wrap (s4 + 1))
        else
          iter (fun (s16 : Int) next17 =>
            if decide (s16 < (a0.Source.From.length : Int)) then
              (idx a0.Arrows s16).bind fun y21 =>
              (idx a0.Source.To s16).bind fun y22 =>
              (idx a2 y22).bind fun y23 =>
              (M.spec_l02Then a0.Target y21 y23).bind fun v24 =>
              (idx a0.Source.From s16).bind fun y25 =>
              (idx a2 y25).bind fun y26 =>
              (idx a1.Arrows s16).bind fun y27 =>
              (M.spec_l02Then a0.Target y26 y27).bind fun v28 =>
              if v24 != v28 then
                some false
              else
                next17 (IntKind.i64.wrap (s16 + 1))
            else
              some true) fuel 0) fuel 0
    else
      some false

end Go.Gx

/- Models of the functions. Printed by wip/gen. -/
namespace Go.Gx

structure XMonad where
  On : XFunctor
  Unit : List Int
  Join : List Int
def eXMonad : Enc XMonad := (eA (eC eXFunctor XMonad.On) (eA (eC (eS eI) XMonad.Unit) (eC (eS eI) XMonad.Join)))
def R.XMonad (x : XMonad) : Prop := (R.XFunctor x.On) ∧ (AllL I64 x.Unit) ∧ (AllL I64 x.Join)
def M.laws_szMonad (a0 : XMonad) (a1 : Int) : Option Int :=
  (M.laws_szFunctor a0.On a1).bind fun v1 =>
  if decide (v1 < 0) then
    some (-1)
  else
    (M.laws_szInt64S a0.Unit v1).bind fun v3 =>
    if decide (v3 < 0) then
      some (-1)
    else
      (M.laws_szInt64S a0.Join v3).bind fun v5 =>
      if decide (v5 < 0) then
        some (-1)
      else
        some v5

def M.laws_toMonad (a0 : XMonad) : Option XMonad :=
  (M.laws_toFunctor a0.On).bind fun v1 =>
  (M.laws_toInt64S a0.Unit).bind fun v2 =>
  (M.laws_toInt64S a0.Join).bind fun v3 =>
  some (⟨v1, v2, v3⟩ : XMonad)

def M.spec_l16Twice (a0 : XFunctor) : Option XFunctor :=
  (M.spec_l06Then a0 a0).bind fun v1 =>
  some v1

def M.spec_l16Laws (a0 : XFunctor) (a1 : List Int) (a2 : List Int) : Option Bool :=
  iter (fun (s1 : Int) next2 =>
    if decide (s1 < a0.Source.Objects) then
      (idx a0.Objects s1).bind fun y6 =>
      (idx a1 s1).bind fun y7 =>
      (idx a0.Arrows y7).bind fun y8 =>
      (idx a2 s1).bind fun y9 =>
      (M.spec_l02Then a0.Source y8 y9).bind fun v10 =>
      (M.spec_l02Unit a0.Source v10).bind fun v11 =>
      if v11 then
        (idx a1 y6).bind fun y13 =>
        (M.spec_l02Then a0.Source y13 y9).bind fun v14 =>
        (M.spec_l02Unit a0.Source v14).bind fun v15 =>
        if v15 then
          (idx a0.Arrows y9).bind fun y17 =>
          (M.spec_l02Then a0.Source y17 y9).bind fun v18 =>
          (idx a2 y6).bind fun y19 =>
          (M.spec_l02Then a0.Source y19 y9).bind fun v20 =>
          if v18 != v20 then
            some false
          else
            next2 (IntKind.i64.wrap (s1 + 1))
        else
          some false
      else
        some false
    else
      some true) fuel 0

def M.spec_l16Is (a0 : XMonad) : Option Bool :=
  (M.spec_l06Is a0.On).bind fun v1 =>
  if v1 then
    (M.spec_l02Same a0.On.Source a0.On.Target).bind fun v3 =>
    if v3 then
      (M.spec_l06Self a0.On.Source).bind fun v5 =>
      (M.spec_l15Natural v5 a0.On a0.Unit).bind fun v6 =>
      if v6 then
        (M.spec_l16Twice a0.On).bind fun v8 =>
        (M.spec_l15Natural v8 a0.On a0.Join).bind fun v9 =>
        if v9 then
          (M.spec_l16Laws a0.On a0.Unit a0.Join).bind fun v11 =>
          some v11
        else
          some false
      else
        some false
    else
      some false
  else
    some false

def M.impl_Monad_object (a0 : XMonad) (a1 : Int) : Option Int :=
  (idx a0.On.Objects a1).bind fun y1 =>
  some y1

def M.impl_Monad_arrow (a0 : XMonad) (a1 : Int) : Option Int :=
  (idx a0.On.Arrows a1).bind fun y1 =>
  some y1

def M.impl_Monad_isLawful (a0 : XMonad) : Option Bool :=
  iter (fun (s1 : Int) next2 =>
    if decide (s1 < a0.On.Source.Objects) then
      (M.impl_Monad_object a0 s1).bind fun v6 =>
      (idx a0.Unit s1).bind fun y7 =>
      (M.impl_Monad_arrow a0 y7).bind fun v8 =>
      (idx a0.Join s1).bind fun y9 =>
      (M.impl_Category_then a0.On.Source v8 y9).bind fun v10 =>
      (idx a0.On.Source.Identity v6).bind fun y11 =>
      if v10 != y11 then
        some false
      else
        (idx a0.Unit v6).bind fun y13 =>
        (M.impl_Category_then a0.On.Source y13 y9).bind fun v14 =>
        if v14 != y11 then
          some false
        else
          (M.impl_Monad_arrow a0 y9).bind fun v16 =>
          (M.impl_Category_then a0.On.Source v16 y9).bind fun v17 =>
          (idx a0.Join v6).bind fun y18 =>
          (M.impl_Category_then a0.On.Source y18 y9).bind fun v19 =>
          if v17 != v19 then
            some false
          else
            next2 (IntKind.i64.wrap (s1 + 1))
    else
      some true) fuel 0

def M.impl_Monad_isMonad (a0 : XMonad) : Option Bool :=
  (M.impl_Functor_isFunctor a0.On).bind fun v1 =>
  if v1 then
    (M.impl_sameCategory a0.On.Source a0.On.Target).bind fun v3 =>
    if v3 then
      (M.impl_identity a0.On.Source).bind fun v5 =>
      (M.impl_Functor_then a0.On a0.On).bind fun v6 =>
      (M.impl_areNatural ([(⟨v5, a0.On, a0.Unit⟩ : XTransformation), (⟨v6, a0.On, a0.Join⟩ : XTransformation)] : List XTransformation)).bind fun v7 =>
      if v7 then
        (M.impl_Monad_isLawful a0).bind fun v9 =>
        some v9
      else
        some false
    else
      some false
  else
    some false

def M.laws_eqMonad (a0 : XMonad) (a1 : XMonad) : Option Bool :=
  (M.laws_eqFunctor a0.On a1.On).bind fun v1 =>
  if v1 then
    (M.laws_eqInt64S a0.Unit a1.Unit).bind fun v3 =>
    if v3 then
      (M.laws_eqInt64S a0.Join a1.Join).bind fun v5 =>
      if v5 then
        some true
      else
        some false
    else
      some false
  else
    some false

end Go.Gx

/- Models of the functions. Printed by wip/gen. -/
namespace Go.Gx

def M.spec_l02Object (a0 : XCategory) (a1 : Int) : Option Bool :=
  if decide (a1 ≥ 0) then
    some (decide (a1 < a0.Objects))
  else
    some false

def M.spec_l02Arrow (a0 : XCategory) (a1 : Int) : Option Bool :=
  if decide (a1 ≥ 0) then
    some (decide (a1 < (a0.From.length : Int)))
  else
    some false

end Go.Gx

/- Models of the functions. Printed by wip/gen. -/
namespace Go.Gx

def M.spec_l16Bind (a0 : XMonad) (a1 : Int) (a2 : Int) (a3 : Int) : Option Int :=
  (idx a0.On.Arrows a3).bind fun y1 =>
  (M.spec_l02Then a0.On.Source a2 y1).bind fun v2 =>
  (idx a0.Join a1).bind fun y3 =>
  (M.spec_l02Then a0.On.Source v2 y3).bind fun v4 =>
  some v4

def M.spec_BindArrows (a0 : XMonad) (a1 : Int) (a2 : Int) (a3 : Int) (a4 : Int) : Option (Int × Int) :=
  (M.spec_l16Is a0).bind fun v1 =>
  if v1 then
    (M.spec_l02Object a0.On.Source a1).bind fun v3 =>
    if v3 then
      (M.spec_l02Object a0.On.Source a2).bind fun v5 =>
      if v5 then
        (M.spec_l02Arrow a0.On.Source a3).bind fun v7 =>
        if v7 then
          (M.spec_l02Arrow a0.On.Source a4).bind fun v9 =>
          if v9 then
            (idx a0.On.Source.To a3).bind fun y11 =>
            (idx a0.On.Objects a1).bind fun y12 =>
            if y11 != y12 then
              some (0, 5)
            else
              (idx a0.On.Source.From a4).bind fun y14 =>
              if y14 != a1 then
                some (0, 5)
              else
                (idx a0.On.Source.To a4).bind fun y16 =>
                (idx a0.On.Objects a2).bind fun y17 =>
                if y16 != y17 then
                  some (0, 5)
                else
                  (M.spec_l16Bind a0 a2 a3 a4).bind fun v19 =>
                  some (v19, 0)
          else
            some (0, 2)
        else
          some (0, 2)
      else
        some (0, 2)
    else
      some (0, 2)
  else
    some (0, 1)

def M.impl_Monad_binder (_ : XMonad) : Option Unit :=
  some ()

def M.impl_Monad_binder_1 (a0 : Int) (a1 : Int) (a2 : Int) (a3 : XCategory) (a4 : XMonad) : Option Int :=
  (idx a4.On.Arrows a2).bind fun y1 =>
  (M.impl_Category_then a3 a1 y1).bind fun v2 =>
  (idx a4.Join a0).bind fun y3 =>
  (M.impl_Category_then a3 v2 y3).bind fun v4 =>
  some v4

def M.impl_BindArrows (a0 : XMonad) (a1 : Int) (a2 : Int) (a3 : Int) (a4 : Int) : Option (Int × Int) :=
  (M.impl_Monad_isMonad a0).bind fun v1 =>
  if v1 then
    (M.impl_within ([a1, a2] : List Int) a0.On.Source.Objects).bind fun v3 =>
    if v3 then
      (M.impl_Category_arrows a0.On.Source).bind fun v5 =>
      (M.impl_within ([a3, a4] : List Int) v5).bind fun v6 =>
      if v6 then
        (idx a0.On.Source.To a3).bind fun y8 =>
        (M.impl_Monad_object a0 a1).bind fun v9 =>
        if y8 != v9 then
          some (0, 5)
        else
          (M.impl_Category_ends a0.On.Source a4).bind fun v11 =>
          (M.impl_Monad_object a0 a2).bind fun v12 =>
          if ((v11.from_ == a1) && (v11.to_ == v12)) == false then
            some (0, 5)
          else
            (M.impl_Monad_binder a0).bind fun _ =>
            (M.impl_Monad_binder_1 a2 a3 a4 a0.On.Source a0).bind fun v15 =>
            some (v15, 0)
      else
        some (0, 2)
    else
      some (0, 2)
  else
    some (0, 1)

def M.laws_FnExactBindArrows (a0 : XMonad) (a1 : Int) (a2 : Int) (a3 : Int) (a4 : Int) : Option Bool :=
  (M.laws_szMonad a0 1048576).bind fun v1 =>
  if decide (v1 < 0) then
    some true
  else
    (M.laws_toMonad a0).bind fun v3 =>
    (M.spec_BindArrows v3 a1 a2 a3 a4).bind fun v4 =>
    (M.impl_BindArrows v3 a1 a2 a3 a4).bind fun v5 =>
    if v5.1 != v4.1 then
      some false
    else
      if v5.2 != v4.2 then
        some false
      else
        (M.laws_eqMonad v3 v3).bind fun v8 =>
        if v8 then
          some true
        else
          some false

end Go.Gx

/- Models of the functions. Printed by wip/gen. -/
namespace Go.Gx

end Go.Gx
