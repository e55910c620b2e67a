/- Laid together: part 0. -/
import Derived.Test.YtnhgilafbaalcaaGxE1
/- Models of the functions. Printed by wip/gen. -/
namespace Go.Gx

structure XCategory where
  Objects : Int
  From : List Int
  To : List Int
  Identity : List Int
  Composites : List (List Int)
def eXCategory : Enc XCategory := (eA (eC eI XCategory.Objects) (eA (eC (eS eI) XCategory.From) (eA (eC (eS eI) XCategory.To) (eA (eC (eS eI) XCategory.Identity) (eC (eS (eS eI)) XCategory.Composites)))))
def R.XCategory (x : XCategory) : Prop := (I64 x.Objects) ∧ (AllL I64 x.From) ∧ (AllL I64 x.To) ∧ (AllL I64 x.Identity) ∧ (AllL (AllL I64) x.Composites)
theorem eXCategory_nb : EncNb eXCategory := (eA_nb (eC_nb eI_nb _) (eA_nb (eC_nb (eS_nb eI_nb) _) (eA_nb (eC_nb (eS_nb eI_nb) _) (eA_nb (eC_nb (eS_nb eI_nb) _) (eC_nb (eS_nb (eS_nb eI_nb)) _)))))

structure XFunctor where
  Source : XCategory
  Target : XCategory
  Objects : List Int
  Arrows : List Int
def eXFunctor : Enc XFunctor := (eA (eC eXCategory XFunctor.Source) (eA (eC eXCategory XFunctor.Target) (eA (eC (eS eI) XFunctor.Objects) (eC (eS eI) XFunctor.Arrows))))
def R.XFunctor (x : XFunctor) : Prop := (R.XCategory x.Source) ∧ (R.XCategory x.Target) ∧ (AllL I64 x.Objects) ∧ (AllL I64 x.Arrows)
theorem eXFunctor_nb : EncNb eXFunctor := (eA_nb (eC_nb eXCategory_nb _) (eA_nb (eC_nb eXCategory_nb _) (eA_nb (eC_nb (eS_nb eI_nb) _) (eC_nb (eS_nb eI_nb) _))))

structure Xends where
  from_ : Int
  to_ : Int
def eXends : Enc Xends := (eA (eC eI Xends.from_) (eC eI Xends.to_))
def R.Xends (x : Xends) : Prop := (I64 x.from_) ∧ (I64 x.to_)
def M.laws_szInt64S (a0 : List Int) (a1 : Int) : Option Int :=
  if decide ((IntKind.i64.wrap (a1 - (a0.length : Int))) < 0) then
    some (-1)
  else
    some (IntKind.i64.wrap (a1 - (a0.length : Int)))

def M.laws_szInt64SS (a0 : List (List Int)) (a1 : Int) : Option Int :=
  if decide ((IntKind.i64.wrap (a1 - (a0.length : Int))) < 0) then
    some (-1)
  else
    iter (fun (s2 : Int × Int) next3 =>
      if decide (s2.2 < (a0.length : Int)) then
        (idx a0 s2.2).bind fun y7 =>
        (M.laws_szInt64S y7 s2.1).bind fun v8 =>
        if decide (v8 < 0) then
          some (-1)
        else
          next3 (v8, IntKind.i64.wrap (s2.2 + 1))
      else
        some s2.1) fuel (IntKind.i64.wrap (a1 - (a0.length : Int)), 0)

def M.laws_szCategory (a0 : XCategory) (a1 : Int) : Option Int :=
  (M.laws_szInt64S a0.From a1).bind fun v1 =>
  if decide (v1 < 0) then
    some (-1)
  else
    (M.laws_szInt64S a0.To v1).bind fun v3 =>
    if decide (v3 < 0) then
      some (-1)
    else
      (M.laws_szInt64S a0.Identity v3).bind fun v5 =>
      if decide (v5 < 0) then
        some (-1)
      else
        (M.laws_szInt64SS a0.Composites v5).bind fun v7 =>
        if decide (v7 < 0) then
          some (-1)
        else
          some v7

def M.spec_l01In (a0 : Int) (a1 : Int) (a2 : Int) : Option Bool :=
  if decide (a0 ≥ a1) then
    some (decide (a0 ≤ a2))
  else
    some false

def M.spec_l01Map (a0 : Int) (a1 : List Int) : Option Bool :=
  iter (fun (s1 : Int) next2 =>
    if decide (s1 < (a1.length : Int)) then
      (idx a1 s1).bind fun y6 =>
      if decide (y6 < 0) then
        some false
      else
        if decide (y6 ≥ a0) then
          some false
        else
          next2 (IntKind.i64.wrap (s1 + 1))
    else
      some true) fuel 0

def M.spec_l02Ends (a0 : List Int) (a1 : Int) (a2 : Int) : Option Bool :=
  if (a0.length : Int) == a1 then
    (M.spec_l01Map a2 a0).bind fun v2 =>
    some v2
  else
    some false

def M.spec_IsShape (a0 : XCategory) : Option Bool :=
  (M.spec_l01In a0.Objects 0 8).bind fun v1 =>
  if v1 then
    if decide ((a0.From.length : Int) > 40) then
      some false
    else
      (M.spec_l02Ends a0.From (a0.From.length : Int) a0.Objects).bind fun v4 =>
      if v4 then
        (M.spec_l02Ends a0.To (a0.From.length : Int) a0.Objects).bind fun v6 =>
        if v6 then
          if (a0.Composites.length : Int) != (a0.From.length : Int) then
            some false
          else
            if (a0.Identity.length : Int) != a0.Objects then
              some false
            else
              (M.spec_l01Map (a0.From.length : Int) a0.Identity).bind fun v10 =>
              if v10 then
                iter (fun (s12 : Int) next13 =>
                  if decide (s12 < a0.Objects) then
                    (idx a0.Identity s12).bind fun y17 =>
                    (idx a0.From y17).bind fun y18 =>
                    if y18 != s12 then
                      some false
                    else
                      (idx a0.To y17).bind fun y20 =>
                      if y20 != s12 then
                        some false
                      else
                        next13 (IntKind.i64.wrap (s12 + 1))
                  else
                    iter (fun (s22 : Int) next23 =>
                      if decide (s22 < (a0.From.length : Int)) then
                        (idx a0.Composites s22).bind fun y27 =>
                        if (y27.length : Int) != (a0.From.length : Int) then
                          some false
                        else
                          iter (fun (s29 : Int) next30 =>
                            if decide (s29 < (a0.From.length : Int)) then
                              (idx y27 s29).bind fun y34 =>
                              (idx a0.To s22).bind fun y35 =>
                              (idx a0.From s29).bind fun y36 =>
                              if y35 != y36 then
                                if y34 != (-1) then
                                  some false
                                else
                                  next30 (IntKind.i64.wrap (s29 + 1))
                              else
                                if decide (y34 < 0) then
                                  some false
                                else
                                  if decide (y34 ≥ (a0.From.length : Int)) then
                                    some false
                                  else
                                    (idx a0.From y34).bind fun y41 =>
                                    (idx a0.From s22).bind fun y42 =>
                                    if y41 != y42 then
                                      some false
                                    else
                                      (idx a0.To y34).bind fun y44 =>
                                      (idx a0.To s29).bind fun y45 =>
                                      if y44 != y45 then
                                        some false
                                      else
                                        next30 (IntKind.i64.wrap (s29 + 1))
                            else
                              next23 (IntKind.i64.wrap (s22 + 1))) fuel 0
                      else
                        some true) fuel 0) fuel 0
              else
                some false
        else
          some false
      else
        some false
  else
    some false

def M.spec_l02Fault (a0 : XCategory) : Option (Int × Int × Int × Int) :=
  iter (fun (s1 : Int) next2 =>
    if decide (s1 < (a0.From.length : Int)) then
      (idx a0.From s1).bind fun y6 =>
      (idx a0.Identity y6).bind fun y7 =>
      (idx a0.Composites y7).bind fun y8 =>
      (idx y8 s1).bind fun y9 =>
      if y9 != s1 then
        some (1, s1, 0, 0)
      else
        (idx a0.Composites s1).bind fun y11 =>
        (idx a0.To s1).bind fun y12 =>
        (idx a0.Identity y12).bind fun y13 =>
        (idx y11 y13).bind fun y14 =>
        if y14 != s1 then
          some (1, s1, 0, 0)
        else
          next2 (IntKind.i64.wrap (s1 + 1))
    else
      iter (fun (s16 : Int) next17 =>
        if decide (s16 < (a0.From.length : Int)) then
          iter (fun (s21 : Int) next22 =>
            if decide (s21 < (a0.From.length : Int)) then
              (idx a0.To s16).bind fun y26 =>
              (idx a0.From s21).bind fun y27 =>
              if y26 != y27 then
                next22 (IntKind.i64.wrap (s21 + 1))
              else
                iter (fun (s29 : Int) next30 =>
                  if decide (s29 < (a0.From.length : Int)) then
                    (idx a0.To s21).bind fun y34 =>
                    (idx a0.From s29).bind fun y35 =>
                    if y34 == y35 then
                      (idx a0.Composites s16).bind fun y37 =>
                      (idx y37 s21).bind fun y38 =>
                      (idx a0.Composites y38).bind fun y39 =>
                      (idx y39 s29).bind fun y40 =>
                      (idx a0.Composites s21).bind fun y41 =>
                      (idx y41 s29).bind fun y42 =>
                      (idx y37 y42).bind fun y43 =>
                      if y40 != y43 then
                        some (2, s16, s21, s29)
                      else
                        next30 (IntKind.i64.wrap (s29 + 1))
                    else
                      next30 (IntKind.i64.wrap (s29 + 1))
                  else
                    next22 (IntKind.i64.wrap (s21 + 1))) fuel 0
            else
              next17 (IntKind.i64.wrap (s16 + 1))) fuel 0
        else
          some (0, 0, 0, 0)) fuel 0) fuel 0

def M.spec_l02Is (a0 : XCategory) : Option Bool :=
  (M.spec_IsShape a0).bind fun v1 =>
  if v1 then
    (M.spec_l02Fault a0).bind fun v3 =>
    some (v3.1 == 0)
  else
    some false

def M.spec_l01Own (a0 : List Int) : Option (List Int) :=
  chk (([] : List Int).length + a0.length ≤ lim) (
    some (([] : List Int) ++ a0))

def M.spec_l01Own2 (a0 : List (List Int)) : Option (List (List Int)) :=
  iter (fun (s1 : (List (List Int)) × Int) next2 =>
    if decide (s1.2 < (a0.length : Int)) then
      (idx a0 s1.2).bind fun y6 =>
      (M.spec_l01Own y6).bind fun v7 =>
      chk (s1.1.length + 1 ≤ lim) (
        next2 (s1.1 ++ [v7], IntKind.i64.wrap (s1.2 + 1)))
    else
      some s1.1) fuel (([] : List (List Int)), 0)

def M.spec_l02Own (a0 : XCategory) : Option XCategory :=
  (M.spec_l01Own a0.From).bind fun v1 =>
  (M.spec_l01Own a0.To).bind fun v2 =>
  (M.spec_l01Own a0.Identity).bind fun v3 =>
  (M.spec_l01Own2 a0.Composites).bind fun v4 =>
  some (⟨a0.Objects, v1, v2, v3, v4⟩ : XCategory)

def M.spec_l06Make (a0 : XCategory) (a1 : XCategory) (a2 : List Int) (a3 : List Int) : Option XFunctor :=
  (M.spec_l02Own a0).bind fun v1 =>
  (M.spec_l02Own a1).bind fun v2 =>
  (M.spec_l01Own a2).bind fun v3 =>
  (M.spec_l01Own a3).bind fun v4 =>
  some (⟨v1, v2, v3, v4⟩ : XFunctor)

def M.laws_toInt64S (a0 : List Int) : Option (List Int) :=
  chk ((0 : Int) ≤ (a0.length : Int) ∧ (a0.length : Int) ≤ (lim : Int)) (
    iter (fun (s2 : (List Int) × Int) next3 =>
      if decide (s2.2 < (a0.length : Int)) then
        (idx a0 s2.2).bind fun y7 =>
        (idx s2.1 s2.2).bind fun _ =>
        next3 (s2.1.set s2.2.toNat y7, IntKind.i64.wrap (s2.2 + 1))
      else
        some s2.1) fuel ((List.replicate (a0.length : Int).toNat (0 : Int)), 0))

def M.laws_toInt64SS (a0 : List (List Int)) : Option (List (List Int)) :=
  chk ((0 : Int) ≤ (a0.length : Int) ∧ (a0.length : Int) ≤ (lim : Int)) (
    iter (fun (s2 : (List (List Int)) × Int) next3 =>
      if decide (s2.2 < (a0.length : Int)) then
        (idx a0 s2.2).bind fun y7 =>
        (M.laws_toInt64S y7).bind fun v8 =>
        (idx s2.1 s2.2).bind fun _ =>
        next3 (s2.1.set s2.2.toNat v8, IntKind.i64.wrap (s2.2 + 1))
      else
        some s2.1) fuel ((List.replicate (a0.length : Int).toNat ([] : List Int)), 0))

def M.laws_toCategory (a0 : XCategory) : Option XCategory :=
  (M.laws_toInt64S a0.From).bind fun v1 =>
  (M.laws_toInt64S a0.To).bind fun v2 =>
  (M.laws_toInt64S a0.Identity).bind fun v3 =>
  (M.laws_toInt64SS a0.Composites).bind fun v4 =>
  some (⟨a0.Objects, v1, v2, v3, v4⟩ : XCategory)

def M.impl_Category_arrows (a0 : XCategory) : Option Int :=
  some (a0.From.length : Int)

def M.impl_inRange (a0 : Int) (a1 : Int) (a2 : Int) : Option Bool :=
  if decide (a0 ≥ a1) then
    some (decide (a0 ≤ a2))
  else
    some false

def M.impl_within (a0 : List Int) (a1 : Int) : Option Bool :=
  iter (fun (s1 : Int) next2 =>
    if decide (s1 < (a0.length : Int)) then
      (idx a0 s1).bind fun y6 =>
      (M.impl_inRange y6 0 (IntKind.i64.wrap (a1 - 1))).bind fun v7 =>
      if v7 then
        next2 (IntKind.i64.wrap (s1 + 1))
      else
        some false
    else
      some true) fuel 0

def M.impl_Category_ends (a0 : XCategory) (a1 : Int) : Option Xends :=
  (idx a0.From a1).bind fun y1 =>
  (idx a0.To a1).bind fun y2 =>
  some (⟨y1, y2⟩ : Xends)

def M.impl_Category_isShape (a0 : XCategory) : Option Bool :=
  (M.impl_Category_arrows a0).bind fun v1 =>
  (M.impl_inRange a0.Objects 0 8).bind fun v2 =>
  if v2 then
    if decide (v1 > 40) then
      some false
    else
      if (a0.To.length : Int) != v1 then
        some false
      else
        (M.impl_within a0.From a0.Objects).bind fun v6 =>
        if v6 then
          (M.impl_within a0.To a0.Objects).bind fun v8 =>
          if v8 then
            if (a0.Identity.length : Int) != a0.Objects then
              some false
            else
              (M.impl_within a0.Identity v1).bind fun v11 =>
              if v11 then
                if (a0.Composites.length : Int) != v1 then
                  some false
                else
                  iter (fun (s14 : Int) next15 =>
                    if decide (s14 < (a0.Identity.length : Int)) then
                      (idx a0.Identity s14).bind fun y19 =>
                      (M.impl_Category_ends a0 y19).bind fun v20 =>
                      if ((v20.from_ == s14) && (v20.to_ == s14)) == false then
                        some false
                      else
                        next15 (IntKind.i64.wrap (s14 + 1))
                    else
                      iter (fun (s22 : Int) next23 =>
                        if decide (s22 < (a0.Composites.length : Int)) then
                          (idx a0.Composites s22).bind fun y27 =>
                          if (y27.length : Int) != v1 then
                            some false
                          else
                            iter (fun (s29 : Int) next30 =>
                              if decide (s29 < (y27.length : Int)) then
                                (idx y27 s29).bind fun y34 =>
                                (idx a0.To s22).bind fun y35 =>
                                (idx a0.From s29).bind fun y36 =>
                                if y35 != y36 then
                                  if y34 != (-1) then
                                    some false
                                  else
                                    next30 (IntKind.i64.wrap (s29 + 1))
                                else
                                  (M.impl_inRange y34 0 (IntKind.i64.wrap (v1 - 1))).bind fun v39 =>
                                  if v39 then
                                    (M.impl_Category_ends a0 y34).bind fun v41 =>
                                    (idx a0.From s22).bind fun y42 =>
                                    (idx a0.To s29).bind fun y43 =>
                                    if ((v41.from_ == y42) && (v41.to_ == y43)) == false then
                                      some false
                                    else
                                      next30 (IntKind.i64.wrap (s29 + 1))
                                  else
                                    some false
                              else
                                next23 (IntKind.i64.wrap (s22 + 1))) fuel 0
                        else
                          some true) fuel 0) fuel 0
              else
                some false
          else
            some false
        else
          some false
  else
    some false

def M.impl_Category_then (a0 : XCategory) (a1 : Int) (a2 : Int) : Option Int :=
  (idx a0.Composites a1).bind fun y1 =>
  (idx y1 a2).bind fun y2 =>
  some y2

def M.impl_Category_fault (a0 : XCategory) : Option (Int × Int × Int × Int) :=
  (M.impl_Category_arrows a0).bind fun v1 =>
  iter (fun (s2 : Int) next3 =>
    if decide (s2 < v1) then
      (idx a0.From s2).bind fun y7 =>
      (idx a0.Identity y7).bind fun y8 =>
      (M.impl_Category_then a0 y8 s2).bind fun v9 =>
      if v9 != s2 then
        some (1, s2, 0, 0)
      else
        (idx a0.To s2).bind fun y11 =>
        (idx a0.Identity y11).bind fun y12 =>
        (M.impl_Category_then a0 s2 y12).bind fun v13 =>
        if v13 != s2 then
          some (1, s2, 0, 0)
        else
          next3 (IntKind.i64.wrap (s2 + 1))
    else
      iter (fun (s15 : Int) next16 =>
        if decide (s15 < v1) then
          iter (fun (s20 : Int) next21 =>
            if decide (s20 < v1) then
              (M.impl_Category_then a0 s15 s20).bind fun v25 =>
              if decide (v25 < 0) then
                next21 (IntKind.i64.wrap (s20 + 1))
              else
                iter (fun (s27 : Int) next28 =>
                  if decide (s27 < v1) then
                    (M.impl_Category_then a0 s20 s27).bind fun v32 =>
                    if decide (v32 ≥ 0) then
                      (M.impl_Category_then a0 v25 s27).bind fun v34 =>
                      (M.impl_Category_then a0 s15 v32).bind fun v35 =>
                      if v34 != v35 then
                        some (2, s15, s20, s27)
                      else
                        next28 (IntKind.i64.wrap (s27 + 1))
                    else
                      next28 (IntKind.i64.wrap (s27 + 1))
                  else
                    next21 (IntKind.i64.wrap (s20 + 1))) fuel 0
            else
              next16 (IntKind.i64.wrap (s15 + 1))) fuel 0
        else
          some (0, 0, 0, 0)) fuel 0) fuel 0

def M.impl_Category_isCategory (a0 : XCategory) : Option Bool :=
  (M.impl_Category_isShape a0).bind fun v1 =>
  if v1 then
    (M.impl_Category_fault a0).bind fun v3 =>
    some (v3.1 == 0)
  else
    some false

def M.impl_clone (a0 : List Int) : Option (List Int) :=
  chk (([] : List Int).length + a0.length ≤ lim) (
    some (([] : List Int) ++ a0))

def M.impl_clones (a0 : List (List Int)) : Option (List (List Int)) :=
  chk ((0 : Int) ≤ (a0.length : Int) ∧ (a0.length : Int) ≤ (lim : Int)) (
    iter (fun (s2 : (List (List Int)) × Int) next3 =>
      if decide (s2.2 < (a0.length : Int)) then
        (idx a0 s2.2).bind fun y7 =>
        (M.impl_clone y7).bind fun v8 =>
        chk (s2.1.length + 1 ≤ lim) (
          next3 (s2.1 ++ [v8], IntKind.i64.wrap (s2.2 + 1)))
      else
        some s2.1) fuel (([] : List (List Int)), 0))

def M.impl_Category_copy (a0 : XCategory) : Option XCategory :=
  (M.impl_clone a0.From).bind fun v1 =>
  (M.impl_clone a0.To).bind fun v2 =>
  (M.impl_clone a0.Identity).bind fun v3 =>
  (M.impl_clones a0.Composites).bind fun v4 =>
  some (⟨a0.Objects, v1, v2, v3, v4⟩ : XCategory)

def M.laws_eqInt64S (a0 : List Int) (a1 : List Int) : Option Bool :=
  if (a0.length : Int) != (a1.length : Int) then
    some false
  else
    iter (fun (s2 : Int) next3 =>
      if decide (s2 < (a0.length : Int)) then
        (idx a0 s2).bind fun y7 =>
        (idx a1 s2).bind fun y8 =>
        if y7 != y8 then
          some false
        else
          next3 (IntKind.i64.wrap (s2 + 1))
      else
        some true) fuel 0

def M.laws_eqInt64SS (a0 : List (List Int)) (a1 : List (List Int)) : Option Bool :=
  if (a0.length : Int) != (a1.length : Int) then
    some false
  else
    iter (fun (s2 : Int) next3 =>
      if decide (s2 < (a0.length : Int)) then
        (idx a0 s2).bind fun y7 =>
        (idx a1 s2).bind fun y8 =>
        (M.laws_eqInt64S y7 y8).bind fun v9 =>
        if v9 then
          next3 (IntKind.i64.wrap (s2 + 1))
        else
          some false
      else
        some true) fuel 0

def M.laws_eqCategory (a0 : XCategory) (a1 : XCategory) : Option Bool :=
  if a0.Objects != a1.Objects then
    some false
  else
    (M.laws_eqInt64S a0.From a1.From).bind fun v2 =>
    if v2 then
      (M.laws_eqInt64S a0.To a1.To).bind fun v4 =>
      if v4 then
        (M.laws_eqInt64S a0.Identity a1.Identity).bind fun v6 =>
        if v6 then
          (M.laws_eqInt64SS a0.Composites a1.Composites).bind fun v8 =>
          if v8 then
            some true
          else
            some false
        else
          some false
      else
        some false
    else
      some false

def M.laws_markInt64S (a0 : List Int) (a1 : Int) : Option (Int × (List Int)) :=
  iter (fun (s1 : (List Int) × Int × Int) next2 =>
    if decide (s1.2.2 < (s1.1.length : Int)) then
      (idx s1.1 s1.2.2).bind fun _ =>
      next2 (s1.1.set s1.2.2.toNat s1.2.1, IntKind.i64.wrap (s1.2.1 + 1), IntKind.i64.wrap (s1.2.2 + 1))
    else
      some (s1.2.1, s1.1)) fuel (a0, a1, 0)

theorem M.len_markInt64S {a0 : List Int} {a1 : Int} {r : Int × (List Int)} (h : M.laws_markInt64S a0 a1 = some r) : a0.length = r.2.length := by
  unfold M.laws_markInt64S at h
  refine iter_pres (fun s => s.1.length = a0.length) (fun r => a0.length = r.2.length) ?_ _ _ _ rfl h
  intro s next r hs hn h
  try dsimp only at h
  split at h
  · obtain ⟨_, _, h⟩ := bind_some' h
    exact hn _ (by simpa using hs) h
  · obtain rfl := Option.some.inj h; exact hs.symm

def M.laws_markInt64SS (a0 : List (List Int)) (a1 : Int) : Option (Int × (List (List Int))) :=
  iter (fun (s1 : (List (List Int)) × Int × Int) next2 =>
    if decide (s1.2.2 < (s1.1.length : Int)) then
      (idx s1.1 s1.2.2).bind fun y6 =>
      (M.laws_markInt64S y6 s1.2.1).bind fun v7 =>
      next2 (s1.1.set s1.2.2.toNat v7.2, v7.1, IntKind.i64.wrap (s1.2.2 + 1))
    else
      some (s1.2.1, s1.1)) fuel (a0, a1, 0)

theorem M.len_markInt64SS {a0 : List (List Int)} {a1 : Int} {r : Int × (List (List Int))} (h : M.laws_markInt64SS a0 a1 = some r) : a0.length = r.2.length := by
  unfold M.laws_markInt64SS at h
  refine iter_pres (fun s => s.1.length = a0.length) (fun r => a0.length = r.2.length) ?_ _ _ _ rfl h
  intro s next r hs hn h
  try dsimp only at h
  split at h
  · obtain ⟨_, _, h⟩ := bind_some' h
    obtain ⟨_, _, h⟩ := bind_some' h
    exact hn _ (by simpa using hs) h
  · obtain rfl := Option.some.inj h; exact hs.symm

def M.laws_markCategory (a0 : XCategory) (a1 : Int) : Option (Int × XCategory) :=
  (M.laws_markInt64S a0.From a1).bind fun v1 =>
  (M.laws_markInt64S a0.To v1.1).bind fun v2 =>
  (M.laws_markInt64S a0.Identity v2.1).bind fun v3 =>
  (M.laws_markInt64SS a0.Composites v3.1).bind fun v4 =>
  some (v4.1, (⟨a0.Objects, v1.2, v2.2, v3.2, v4.2⟩ : XCategory))

theorem M.len_markCategory {a0 : XCategory} {a1 : Int} {r : Int × XCategory} (h : M.laws_markCategory a0 a1 = some r) : a0.Objects = r.2.Objects ∧ a0.From.length = r.2.From.length ∧ a0.To.length = r.2.To.length ∧ a0.Identity.length = r.2.Identity.length ∧ a0.Composites.length = r.2.Composites.length := by
  unfold M.laws_markCategory at h
  obtain ⟨v0, h0, h⟩ := bind_some' h
  have l0 := M.len_markInt64S h0
  obtain ⟨v1, h1, h⟩ := bind_some' h
  have l1 := M.len_markInt64S h1
  obtain ⟨v2, h2, h⟩ := bind_some' h
  have l2 := M.len_markInt64S h2
  obtain ⟨v3, h3, h⟩ := bind_some' h
  have l3 := M.len_markInt64SS h3
  obtain rfl := Option.some.inj h
  refine ⟨?_, ?_, ?_, ?_, ?_⟩ <;> dsimp only <;> omega
def M.laws_heldInt64S (a0 : List Int) (a1 : Int) : Option Int :=
  iter (fun (s1 : Int × Int) next2 =>
    if decide (s1.2 < (a0.length : Int)) then
      (idx a0 s1.2).bind fun y6 =>
      if y6 != s1.1 then
        some (-1)
      else
        next2 (IntKind.i64.wrap (s1.1 + 1), IntKind.i64.wrap (s1.2 + 1))
    else
      some s1.1) fuel (a1, 0)

def M.laws_heldInt64SS (a0 : List (List Int)) (a1 : Int) : Option Int :=
  iter (fun (s1 : Int × Int) next2 =>
    if decide (s1.2 < (a0.length : Int)) then
      (idx a0 s1.2).bind fun y6 =>
      (M.laws_heldInt64S y6 s1.1).bind fun v7 =>
      if decide (v7 < 0) then
        some (-1)
      else
        next2 (v7, IntKind.i64.wrap (s1.2 + 1))
    else
      some s1.1) fuel (a1, 0)

def M.laws_heldCategory (a0 : XCategory) (a1 : Int) : Option Int :=
  (M.laws_heldInt64S a0.From a1).bind fun v1 =>
  if decide (v1 < 0) then
    some (-1)
  else
    (M.laws_heldInt64S a0.To v1).bind fun v3 =>
    if decide (v3 < 0) then
      some (-1)
    else
      (M.laws_heldInt64S a0.Identity v3).bind fun v5 =>
      if decide (v5 < 0) then
        some (-1)
      else
        (M.laws_heldInt64SS a0.Composites v5).bind fun v7 =>
        if decide (v7 < 0) then
          some (-1)
        else
          some v7

end Go.Gx

/- Models of the functions. Printed by wip/gen. -/
namespace Go.Gx

structure XTransformation where
  Source : XFunctor
  Target : XFunctor
  Components : List Int
def R.XTransformation (x : XTransformation) : Prop := (R.XFunctor x.Source) ∧ (R.XFunctor x.Target) ∧ (AllL I64 x.Components)
end Go.Gx

/- Models of the functions. Printed by wip/gen. -/
namespace Go.Gx

end Go.Gx

/- Models of the functions. Printed by wip/gen. -/
namespace Go.Gx

def M.impl_numbers (a0 : Int) : Option (List Int) :=
  chk ((0 : Int) ≤ a0 ∧ a0 ≤ (lim : Int)) (
    iter (fun (s2 : (List Int) × Int) next3 =>
      if decide (s2.2 < ((List.replicate a0.toNat (0 : Int)).length : Int)) then
        (idx s2.1 s2.2).bind fun _ =>
        next3 (s2.1.set s2.2.toNat s2.2, IntKind.i64.wrap (s2.2 + 1))
      else
        some s2.1) fuel ((List.replicate a0.toNat (0 : Int)), 0))

def M.spec_l02Hom (a0 : XCategory) (a1 : Int) (a2 : Int) : Option (List Int) :=
  iter (fun (s1 : (List Int) × Int) next2 =>
    if decide (s1.2 < (a0.From.length : Int)) then
      (idx a0.From s1.2).bind fun y6 =>
      if y6 == a1 then
        (idx a0.To s1.2).bind fun y8 =>
        if y8 == a2 then
          chk (s1.1.length + (([s1.2] : List Int).length) ≤ lim) (
            next2 (s1.1 ++ ([s1.2] : List Int), IntKind.i64.wrap (s1.2 + 1)))
        else
          next2 (s1.1, IntKind.i64.wrap (s1.2 + 1))
      else
        next2 (s1.1, IntKind.i64.wrap (s1.2 + 1))
    else
      some s1.1) fuel (([] : List Int), 0)

def M.spec_l01Index (a0 : List Int) (a1 : Int) : Option Int :=
  iter (fun (s1 : Int) next2 =>
    if decide (s1 < (a0.length : Int)) then
      (idx a0 s1).bind fun y6 =>
      if y6 == a1 then
        some s1
      else
        next2 (IntKind.i64.wrap (s1 + 1))
    else
      some (-1)) fuel 0

def M.spec_l02Then (a0 : XCategory) (a1 : Int) (a2 : Int) : Option Int :=
  (idx a0.Composites a1).bind fun y1 =>
  (idx y1 a2).bind fun y2 =>
  some y2

def M.impl_Category_hom (a0 : XCategory) (a1 : Int) (a2 : Int) : Option (List Int) :=
  iter (fun (s1 : (List Int) × Int) next2 =>
    if decide (s1.2 < (a0.From.length : Int)) then
      (idx a0.From s1.2).bind fun y6 =>
      if y6 == a1 then
        (idx a0.To s1.2).bind fun y8 =>
        if y8 == a2 then
          chk (s1.1.length + (([s1.2] : List Int).length) ≤ lim) (
            next2 (s1.1 ++ ([s1.2] : List Int), IntKind.i64.wrap (s1.2 + 1)))
        else
          next2 (s1.1, IntKind.i64.wrap (s1.2 + 1))
      else
        next2 (s1.1, IntKind.i64.wrap (s1.2 + 1))
    else
      some s1.1) fuel (([] : List Int), 0)

def M.slices_Index_int64_int64 (a0 : List Int) (a1 : Int) : Option Int :=
  iter (fun (s1 : Int) next2 =>
    if decide (s1 < (a0.length : Int)) then
      (idx a0 s1).bind fun y6 =>
      if a1 == y6 then
        some s1
      else
        next2 (IntKind.i64.wrap (s1 + 1))
    else
      some (-1)) fuel 0

def M.impl_index_int64 (a0 : List Int) (a1 : Int) : Option Int :=
  (M.slices_Index_int64_int64 a0 a1).bind fun v1 =>
  some v1

end Go.Gx

/- Models of the functions. Printed by wip/gen. -/
namespace Go.Gx

end Go.Gx

/- Models of the functions. Printed by wip/gen. -/
namespace Go.Gx

end Go.Gx

/- Models of the functions. Printed by wip/gen. -/
namespace Go.Gx

structure XProfunctor where
  Source : XCategory
  Target : XCategory
  Sizes : List (List Int)
  Before : List (List (List Int))
  Behind : List (List (List Int))
def eXProfunctor : Enc XProfunctor := (eA (eC eXCategory XProfunctor.Source) (eA (eC eXCategory XProfunctor.Target) (eA (eC (eS (eS eI)) XProfunctor.Sizes) (eA (eC (eS (eS (eS eI))) XProfunctor.Before) (eC (eS (eS (eS eI))) XProfunctor.Behind)))))
def R.XProfunctor (x : XProfunctor) : Prop := (R.XCategory x.Source) ∧ (R.XCategory x.Target) ∧ (AllL (AllL I64) x.Sizes) ∧ (AllL (AllL (AllL I64)) x.Before) ∧ (AllL (AllL (AllL I64)) x.Behind)
theorem eXProfunctor_nb : EncNb eXProfunctor := (eA_nb (eC_nb eXCategory_nb _) (eA_nb (eC_nb eXCategory_nb _) (eA_nb (eC_nb (eS_nb (eS_nb eI_nb)) _) (eA_nb (eC_nb (eS_nb (eS_nb (eS_nb eI_nb))) _) (eC_nb (eS_nb (eS_nb (eS_nb eI_nb))) _)))))

def M.spec_l22Natural (a0 : XFunctor) (a1 : XFunctor) : Option XProfunctor :=
  (M.spec_l02Own a0.Source).bind fun v1 =>
  (M.spec_l02Own a1.Source).bind fun v2 =>
  iter (fun (s3 : (List (List Int)) × Int) next4 =>
    if decide (s3.2 < a0.Source.Objects) then
      iter (fun (s8 : (List Int) × Int) next9 =>
        if decide (s8.2 < a1.Source.Objects) then
          (idx a0.Objects s3.2).bind fun y13 =>
          (idx a1.Objects s8.2).bind fun y14 =>
          (M.spec_l02Hom a0.Target y13 y14).bind fun v15 =>
          chk (s8.1.length + (([(v15.length : Int)] : List Int).length) ≤ lim) (
            next9 (s8.1 ++ ([(v15.length : Int)] : List Int), IntKind.i64.wrap (s8.2 + 1)))
        else
          chk (s3.1.length + 1 ≤ lim) (
            next4 (s3.1 ++ [s8.1], IntKind.i64.wrap (s3.2 + 1)))) fuel (([] : List Int), 0)
    else
      iter (fun (s18 : (List (List (List Int))) × Int) next19 =>
        if decide (s18.2 < (a0.Source.From.length : Int)) then
          iter (fun (s23 : (List (List Int)) × Int) next24 =>
            if decide (s23.2 < a1.Source.Objects) then
              (idx a0.Source.To s18.2).bind fun y28 =>
              (idx a0.Objects y28).bind fun y29 =>
              (idx a1.Objects s23.2).bind fun y30 =>
              (M.spec_l02Hom a0.Target y29 y30).bind fun v31 =>
              (idx a0.Source.From s18.2).bind fun y32 =>
              (idx a0.Objects y32).bind fun y33 =>
              (M.spec_l02Hom a0.Target y33 y30).bind fun v34 =>
              iter (fun (s35 : (List Int) × Int) next36 =>
                if decide (s35.2 < (v31.length : Int)) then
                  (idx a0.Arrows s18.2).bind fun y40 =>
                  (idx v31 s35.2).bind fun y41 =>
                  (M.spec_l02Then a0.Target y40 y41).bind fun v42 =>
                  (M.spec_l01Index v34 v42).bind fun v43 =>
                  chk (s35.1.length + (([v43] : List Int).length) ≤ lim) (
                    next36 (s35.1 ++ ([v43] : List Int), IntKind.i64.wrap (s35.2 + 1)))
                else
                  chk (s23.1.length + 1 ≤ lim) (
                    next24 (s23.1 ++ [s35.1], IntKind.i64.wrap (s23.2 + 1)))) fuel (([] : List Int), 0)
            else
              chk (s18.1.length + 1 ≤ lim) (
                next19 (s18.1 ++ [s23.1], IntKind.i64.wrap (s18.2 + 1)))) fuel (([] : List (List Int)), 0)
        else
          iter (fun (s47 : (List (List (List Int))) × Int) next48 =>
            if decide (s47.2 < (a1.Source.From.length : Int)) then
              iter (fun (s52 : (List (List Int)) × Int) next53 =>
                if decide (s52.2 < a0.Source.Objects) then
                  (idx a0.Objects s52.2).bind fun y57 =>
                  (idx a1.Source.From s47.2).bind fun y58 =>
                  (idx a1.Objects y58).bind fun y59 =>
                  (M.spec_l02Hom a0.Target y57 y59).bind fun v60 =>
                  (idx a1.Source.To s47.2).bind fun y61 =>
                  (idx a1.Objects y61).bind fun y62 =>
                  (M.spec_l02Hom a0.Target y57 y62).bind fun v63 =>
                  iter (fun (s64 : (List Int) × Int) next65 =>
                    if decide (s64.2 < (v60.length : Int)) then
                      (idx v60 s64.2).bind fun y69 =>
                      (idx a1.Arrows s47.2).bind fun y70 =>
                      (M.spec_l02Then a0.Target y69 y70).bind fun v71 =>
                      (M.spec_l01Index v63 v71).bind fun v72 =>
                      chk (s64.1.length + (([v72] : List Int).length) ≤ lim) (
                        next65 (s64.1 ++ ([v72] : List Int), IntKind.i64.wrap (s64.2 + 1)))
                    else
                      chk (s52.1.length + 1 ≤ lim) (
                        next53 (s52.1 ++ [s64.1], IntKind.i64.wrap (s52.2 + 1)))) fuel (([] : List Int), 0)
                else
                  chk (s47.1.length + 1 ≤ lim) (
                    next48 (s47.1 ++ [s52.1], IntKind.i64.wrap (s47.2 + 1)))) fuel (([] : List (List Int)), 0)
            else
              some (⟨v1, v2, s3.1, s18.1, s47.1⟩ : XProfunctor)) fuel (([] : List (List (List Int))), 0)) fuel (([] : List (List (List Int))), 0)) fuel (([] : List (List Int)), 0)

def M.impl_profunctor (a0 : XCategory) (a1 : XCategory) (a2 : Int → Int → Option Int) (a3 : Int → Int → Option (List Int)) (a4 : Int → Int → Option (List Int)) : Option (XProfunctor × Bool) :=
  (M.impl_Category_copy a0).bind fun v1 =>
  (M.impl_Category_copy a1).bind fun v2 =>
  iter (fun (s3 : (List (List Int)) × Int) next4 =>
    if decide (s3.2 < a0.Objects) then
      chk ((0 : Int) ≤ a1.Objects ∧ a1.Objects ≤ (lim : Int)) (
        iter (fun (s9 : (List Int) × Int) next10 =>
          if decide (s9.2 < a1.Objects) then
            chk (s9.2 = (s9.1.length : Int)) (
              (a2 s3.2 s9.2).bind fun v15 =>
              chk (s9.1.length + (([v15] : List Int).length) ≤ lim) (
                (idx (s9.1 ++ ([v15] : List Int)) s9.2).bind fun y17 =>
                if decide (y17 > 64) then
                  some ((⟨(⟨0, [], [], [], []⟩ : XCategory), (⟨0, [], [], [], []⟩ : XCategory), [], [], []⟩ : XProfunctor), false)
                else
                  next10 (s9.1 ++ ([v15] : List Int), IntKind.i64.wrap (s9.2 + 1))))
          else
            chk (s3.1.length + 1 ≤ lim) (
              next4 (s3.1 ++ [s9.1], IntKind.i64.wrap (s3.2 + 1)))) fuel (([] : List Int), 0))
    else
      iter (fun (s20 : (List (List (List Int))) × Int) next21 =>
        if decide (s20.2 < (a0.From.length : Int)) then
          iter (fun (s25 : (List (List Int)) × Int) next26 =>
            if decide (s25.2 < a1.Objects) then
              (a3 s20.2 s25.2).bind fun v30 =>
              chk (s25.1.length + 1 ≤ lim) (
                next26 (s25.1 ++ [v30], IntKind.i64.wrap (s25.2 + 1)))
            else
              chk (s20.1.length + 1 ≤ lim) (
                next21 (s20.1 ++ [s25.1], IntKind.i64.wrap (s20.2 + 1)))) fuel (([] : List (List Int)), 0)
        else
          iter (fun (s33 : (List (List (List Int))) × Int) next34 =>
            if decide (s33.2 < (a1.From.length : Int)) then
              iter (fun (s38 : (List (List Int)) × Int) next39 =>
                if decide (s38.2 < a0.Objects) then
                  (a4 s33.2 s38.2).bind fun v43 =>
                  chk (s38.1.length + 1 ≤ lim) (
                    next39 (s38.1 ++ [v43], IntKind.i64.wrap (s38.2 + 1)))
                else
                  chk (s33.1.length + 1 ≤ lim) (
                    next34 (s33.1 ++ [s38.1], IntKind.i64.wrap (s33.2 + 1)))) fuel (([] : List (List Int)), 0)
            else
              some ((⟨v1, v2, s3.1, s20.1, s33.1⟩ : XProfunctor), true)) fuel (([] : List (List (List Int))), 0)) fuel (([] : List (List (List Int))), 0)) fuel (([] : List (List Int)), 0)

def M.laws_eqInt64SSS (a0 : List (List (List Int))) (a1 : List (List (List Int))) : Option Bool :=
  if (a0.length : Int) != (a1.length : Int) then
    some false
  else
    iter (fun (s2 : Int) next3 =>
      if decide (s2 < (a0.length : Int)) then
        (idx a0 s2).bind fun y7 =>
        (idx a1 s2).bind fun y8 =>
        (M.laws_eqInt64SS y7 y8).bind fun v9 =>
        if v9 then
          next3 (IntKind.i64.wrap (s2 + 1))
        else
          some false
      else
        some true) fuel 0

def M.laws_eqProfunctor (a0 : XProfunctor) (a1 : XProfunctor) : Option Bool :=
  (M.laws_eqCategory a0.Source a1.Source).bind fun v1 =>
  if v1 then
    (M.laws_eqCategory a0.Target a1.Target).bind fun v3 =>
    if v3 then
      (M.laws_eqInt64SS a0.Sizes a1.Sizes).bind fun v5 =>
      if v5 then
        (M.laws_eqInt64SSS a0.Before a1.Before).bind fun v7 =>
        if v7 then
          (M.laws_eqInt64SSS a0.Behind a1.Behind).bind fun v9 =>
          if v9 then
            some true
          else
            some false
        else
          some false
      else
        some false
    else
      some false
  else
    some false

def M.laws_markInt64SSS (a0 : List (List (List Int))) (a1 : Int) : Option (Int × (List (List (List Int)))) :=
  iter (fun (s1 : (List (List (List Int))) × Int × Int) next2 =>
    if decide (s1.2.2 < (s1.1.length : Int)) then
      (idx s1.1 s1.2.2).bind fun y6 =>
      (M.laws_markInt64SS y6 s1.2.1).bind fun v7 =>
      next2 (s1.1.set s1.2.2.toNat v7.2, v7.1, IntKind.i64.wrap (s1.2.2 + 1))
    else
      some (s1.2.1, s1.1)) fuel (a0, a1, 0)

theorem M.len_markInt64SSS {a0 : List (List (List Int))} {a1 : Int} {r : Int × (List (List (List Int)))} (h : M.laws_markInt64SSS a0 a1 = some r) : a0.length = r.2.length := by
  unfold M.laws_markInt64SSS at h
  refine iter_pres (fun s => s.1.length = a0.length) (fun r => a0.length = r.2.length) ?_ _ _ _ rfl h
  intro s next r hs hn h
  try dsimp only at h
  split at h
  · obtain ⟨_, _, h⟩ := bind_some' h
    obtain ⟨_, _, h⟩ := bind_some' h
    exact hn _ (by simpa using hs) h
  · obtain rfl := Option.some.inj h; exact hs.symm

def M.laws_markProfunctor (a0 : XProfunctor) (a1 : Int) : Option (Int × XProfunctor) :=
  (M.laws_markCategory a0.Source a1).bind fun v1 =>
  (M.laws_markCategory a0.Target v1.1).bind fun v2 =>
  (M.laws_markInt64SS a0.Sizes v2.1).bind fun v3 =>
  (M.laws_markInt64SSS a0.Before v3.1).bind fun v4 =>
  (M.laws_markInt64SSS a0.Behind v4.1).bind fun v5 =>
  some (v5.1, (⟨(⟨a0.Source.Objects, v1.2.From, v1.2.To, v1.2.Identity, v1.2.Composites⟩ : XCategory), (⟨a0.Target.Objects, v2.2.From, v2.2.To, v2.2.Identity, v2.2.Composites⟩ : XCategory), v3.2, v4.2, v5.2⟩ : XProfunctor))

theorem M.len_markProfunctor {a0 : XProfunctor} {a1 : Int} {r : Int × XProfunctor} (h : M.laws_markProfunctor a0 a1 = some r) : a0.Source.Objects = r.2.Source.Objects ∧ a0.Source.From.length = r.2.Source.From.length ∧ a0.Source.To.length = r.2.Source.To.length ∧ a0.Source.Identity.length = r.2.Source.Identity.length ∧ a0.Source.Composites.length = r.2.Source.Composites.length ∧ a0.Target.Objects = r.2.Target.Objects ∧ a0.Target.From.length = r.2.Target.From.length ∧ a0.Target.To.length = r.2.Target.To.length ∧ a0.Target.Identity.length = r.2.Target.Identity.length ∧ a0.Target.Composites.length = r.2.Target.Composites.length ∧ a0.Sizes.length = r.2.Sizes.length ∧ a0.Before.length = r.2.Before.length ∧ a0.Behind.length = r.2.Behind.length := by
  unfold M.laws_markProfunctor at h
  obtain ⟨v0, h0, h⟩ := bind_some' h
  have l0 := M.len_markCategory h0
  obtain ⟨v1, h1, h⟩ := bind_some' h
  have l1 := M.len_markCategory h1
  obtain ⟨v2, h2, h⟩ := bind_some' h
  have l2 := M.len_markInt64SS h2
  obtain ⟨v3, h3, h⟩ := bind_some' h
  have l3 := M.len_markInt64SSS h3
  obtain ⟨v4, h4, h⟩ := bind_some' h
  have l4 := M.len_markInt64SSS h4
  obtain rfl := Option.some.inj h
  refine ⟨?_, ?_, ?_, ?_, ?_, ?_, ?_, ?_, ?_, ?_, ?_, ?_, ?_⟩ <;> dsimp only <;> omega
theorem rsC_eXProfunctor (q : Nat) {x y : XProfunctor} (h : x.Source.Objects = y.Source.Objects ∧ x.Source.From.length = y.Source.From.length ∧ x.Source.To.length = y.Source.To.length ∧ x.Source.Identity.length = y.Source.Identity.length ∧ x.Source.Composites.length = y.Source.Composites.length ∧ x.Target.Objects = y.Target.Objects ∧ x.Target.From.length = y.Target.From.length ∧ x.Target.To.length = y.Target.To.length ∧ x.Target.Identity.length = y.Target.Identity.length ∧ x.Target.Composites.length = y.Target.Composites.length ∧ x.Sizes.length = y.Sizes.length ∧ x.Before.length = y.Before.length ∧ x.Behind.length = y.Behind.length) : rsC q (eXProfunctor.o x) = rsC q (eXProfunctor.o y) := by
  obtain ⟨h0, h1, h2, h3, h4, h5, h6, h7, h8, h9, h10, h11, h12⟩ := h
  have e : ∀ z : XProfunctor, rsC q (eXProfunctor.o z) = [iv z.Source.Objects, .rs (q + 1) 0 z.Source.From.length, .rs (q + 1 + 1) 0 z.Source.To.length, .rs (q + 1 + 1 + 1) 0 z.Source.Identity.length, .rs (q + 1 + 1 + 1 + 1) 0 z.Source.Composites.length, iv z.Target.Objects, .rs (q + 1 + 1 + 1 + 1 + 1 + 1) 0 z.Target.From.length, .rs (q + 1 + 1 + 1 + 1 + 1 + 1 + 1) 0 z.Target.To.length, .rs (q + 1 + 1 + 1 + 1 + 1 + 1 + 1 + 1) 0 z.Target.Identity.length, .rs (q + 1 + 1 + 1 + 1 + 1 + 1 + 1 + 1 + 1) 0 z.Target.Composites.length, .rs (q + 1 + 1 + 1 + 1 + 1 + 1 + 1 + 1 + 1 + 1) 0 z.Sizes.length, .rs (q + 1 + 1 + 1 + 1 + 1 + 1 + 1 + 1 + 1 + 1 + 1) 0 z.Before.length, .rs (q + 1 + 1 + 1 + 1 + 1 + 1 + 1 + 1 + 1 + 1 + 1 + 1) 0 z.Behind.length] := fun _ => rfl
  rw [e, e, h0, h1, h2, h3, h4, h5, h6, h7, h8, h9, h10, h11, h12]

def M.laws_heldInt64SSS (a0 : List (List (List Int))) (a1 : Int) : Option Int :=
  iter (fun (s1 : Int × Int) next2 =>
    if decide (s1.2 < (a0.length : Int)) then
      (idx a0 s1.2).bind fun y6 =>
      (M.laws_heldInt64SS y6 s1.1).bind fun v7 =>
      if decide (v7 < 0) then
        some (-1)
      else
        next2 (v7, IntKind.i64.wrap (s1.2 + 1))
    else
      some s1.1) fuel (a1, 0)

def M.laws_heldProfunctor (a0 : XProfunctor) (a1 : Int) : Option Int :=
  (M.laws_heldCategory a0.Source a1).bind fun v1 =>
  if decide (v1 < 0) then
    some (-1)
  else
    (M.laws_heldCategory a0.Target v1).bind fun v3 =>
    if decide (v3 < 0) then
      some (-1)
    else
      (M.laws_heldInt64SS a0.Sizes v3).bind fun v5 =>
      if decide (v5 < 0) then
        some (-1)
      else
        (M.laws_heldInt64SSS a0.Before v5).bind fun v7 =>
        if decide (v7 < 0) then
          some (-1)
        else
          (M.laws_heldInt64SSS a0.Behind v7).bind fun v9 =>
          if decide (v9 < 0) then
            some (-1)
          else
            some v9

end Go.Gx

/- Models of the functions. Printed by wip/gen. -/
namespace Go.Gx

structure XSetFunctor where
  Shape : XCategory
  Sizes : List Int
  Actions : List (List Int)
def R.XSetFunctor (x : XSetFunctor) : Prop := (R.XCategory x.Shape) ∧ (AllL I64 x.Sizes) ∧ (AllL (AllL I64) x.Actions)
structure XSetMap where
  Source : XSetFunctor
  Target : XSetFunctor
  Parts : List (List Int)
def R.XSetMap (x : XSetMap) : Prop := (R.XSetFunctor x.Source) ∧ (R.XSetFunctor x.Target) ∧ (AllL (AllL I64) x.Parts)
end Go.Gx

/- Models of the functions. Printed by wip/gen. -/
namespace Go.Gx

def M.impl_shifted (a0 : List Int) (a1 : Int) : Option (List Int) :=
  iter (fun (s1 : (List Int) × Int) next2 =>
    if decide (s1.2 < (a0.length : Int)) then
      (idx a0 s1.2).bind fun y6 =>
      chk (s1.1.length + (([IntKind.i64.wrap (y6 + a1)] : List Int).length) ≤ lim) (
        next2 (s1.1 ++ ([IntKind.i64.wrap (y6 + a1)] : List Int), IntKind.i64.wrap (s1.2 + 1)))
    else
      some s1.1) fuel (([] : List Int), 0)

end Go.Gx

/- Models of the functions. Printed by wip/gen. -/
namespace Go.Gx

def M.spec_l01Has (a0 : List Int) (a1 : Int) : Option Bool :=
  iter (fun (s1 : Int) next2 =>
    if decide (s1 < (a0.length : Int)) then
      (idx a0 s1).bind fun y6 =>
      if y6 == a1 then
        some true
      else
        next2 (IntKind.i64.wrap (s1 + 1))
    else
      some false) fuel 0

end Go.Gx

/- Models of the functions. Printed by wip/gen. -/
namespace Go.Gx

def M.spec_l02Full (a0 : XCategory) (a1 : List Int) : Option (List Int) :=
  iter (fun (s1 : (List Int) × Int) next2 =>
    if decide (s1.2 < (a0.From.length : Int)) then
      (idx a0.From s1.2).bind fun y6 =>
      (M.spec_l01Has a1 y6).bind fun v7 =>
      if v7 then
        (idx a0.To s1.2).bind fun y9 =>
        (M.spec_l01Has a1 y9).bind fun v10 =>
        if v10 then
          chk (s1.1.length + (([s1.2] : List Int).length) ≤ lim) (
            next2 (s1.1 ++ ([s1.2] : List Int), IntKind.i64.wrap (s1.2 + 1)))
        else
          next2 (s1.1, IntKind.i64.wrap (s1.2 + 1))
      else
        next2 (s1.1, IntKind.i64.wrap (s1.2 + 1))
    else
      some s1.1) fuel (([] : List Int), 0)

def M.spec_l02Part (a0 : XCategory) (a1 : List Int) : Option XCategory :=
  iter (fun (s1 : (List Int) × Int) next2 =>
    if decide (s1.2 < a0.Objects) then
      (idx a0.Identity s1.2).bind fun y6 =>
      (M.spec_l01Has a1 y6).bind fun v7 =>
      if v7 then
        chk (s1.1.length + (([s1.2] : List Int).length) ≤ lim) (
          next2 (s1.1 ++ ([s1.2] : List Int), IntKind.i64.wrap (s1.2 + 1)))
      else
        next2 (s1.1, IntKind.i64.wrap (s1.2 + 1))
    else
      iter (fun (s10 : (List Int) × Int) next11 =>
        if decide (s10.2 < (s1.1.length : Int)) then
          (idx s1.1 s10.2).bind fun y15 =>
          (idx a0.Identity y15).bind fun y16 =>
          (M.spec_l01Index a1 y16).bind fun v17 =>
          chk (s10.1.length + (([v17] : List Int).length) ≤ lim) (
            next11 (s10.1 ++ ([v17] : List Int), IntKind.i64.wrap (s10.2 + 1)))
        else
          iter (fun (s19 : (List Int) × (List Int) × (List (List Int)) × Int) next20 =>
            if decide (s19.2.2.2 < (a1.length : Int)) then
              (idx a1 s19.2.2.2).bind fun y24 =>
              (idx a0.From y24).bind fun y25 =>
              (M.spec_l01Index s1.1 y25).bind fun v26 =>
              chk (s19.1.length + (([v26] : List Int).length) ≤ lim) (
                (idx a0.To y24).bind fun y28 =>
                (M.spec_l01Index s1.1 y28).bind fun v29 =>
                chk (s19.2.1.length + (([v29] : List Int).length) ≤ lim) (
                  iter (fun (s31 : (List Int) × Int) next32 =>
                    if decide (s31.2 < (a1.length : Int)) then
                      (idx a0.Composites y24).bind fun y36 =>
                      (idx a1 s31.2).bind fun y37 =>
                      (idx y36 y37).bind fun y38 =>
                      (M.spec_l01Index a1 y38).bind fun v39 =>
                      chk (s31.1.length + (([v39] : List Int).length) ≤ lim) (
                        next32 (s31.1 ++ ([v39] : List Int), IntKind.i64.wrap (s31.2 + 1)))
                    else
                      chk (s19.2.2.1.length + 1 ≤ lim) (
                        next20 (s19.1 ++ ([v26] : List Int), s19.2.1 ++ ([v29] : List Int), s19.2.2.1 ++ [s31.1], IntKind.i64.wrap (s19.2.2.2 + 1)))) fuel (([] : List Int), 0)))
            else
              some (⟨(s1.1.length : Int), s19.1, s19.2.1, s10.1, s19.2.2.1⟩ : XCategory)) fuel (([] : List Int), ([] : List Int), ([] : List (List Int)), 0)) fuel (([] : List Int), 0)) fuel (([] : List Int), 0)

def M.spec_ProfunctorOfCollage (a0 : XCategory) (a1 : Int) : Option (XProfunctor × Int) :=
  (M.spec_l02Is a0).bind fun v1 =>
  if v1 then
    (M.spec_l01In a1 0 a0.Objects).bind fun v3 =>
    if v3 then
      iter (fun (s5 : Int) next6 =>
        if decide (s5 < (a0.From.length : Int)) then
          (idx a0.From s5).bind fun y10 =>
          if decide (y10 ≥ a1) then
            (idx a0.To s5).bind fun y12 =>
            if decide (y12 < a1) then
              some ((⟨(⟨0, [], [], [], []⟩ : XCategory), (⟨0, [], [], [], []⟩ : XCategory), [], [], []⟩ : XProfunctor), 5)
            else
              next6 (IntKind.i64.wrap (s5 + 1))
          else
            next6 (IntKind.i64.wrap (s5 + 1))
        else
          iter (fun (s14 : (List Int) × (List Int) × Int) next15 =>
            if decide (s14.2.2 < a0.Objects) then
              if decide (s14.2.2 < a1) then
                chk (s14.1.length + (([s14.2.2] : List Int).length) ≤ lim) (
                  next15 (s14.1 ++ ([s14.2.2] : List Int), s14.2.1, IntKind.i64.wrap (s14.2.2 + 1)))
              else
                chk (s14.2.1.length + (([s14.2.2] : List Int).length) ≤ lim) (
                  next15 (s14.1, s14.2.1 ++ ([s14.2.2] : List Int), IntKind.i64.wrap (s14.2.2 + 1)))
            else
              (M.spec_l02Full a0 s14.1).bind fun v22 =>
              (M.spec_l02Full a0 s14.2.1).bind fun v23 =>
              (M.spec_l02Part a0 v22).bind fun v24 =>
              (M.spec_l06Make v24 a0 s14.1 v22).bind fun v25 =>
              (M.spec_l02Part a0 v23).bind fun v26 =>
              (M.spec_l06Make v26 a0 s14.2.1 v23).bind fun v27 =>
              (M.spec_l22Natural v25 v27).bind fun v28 =>
              some (v28, 0)) fuel (([] : List Int), ([] : List Int), 0)) fuel 0
    else
      some ((⟨(⟨0, [], [], [], []⟩ : XCategory), (⟨0, [], [], [], []⟩ : XCategory), [], [], []⟩ : XProfunctor), 2)
  else
    some ((⟨(⟨0, [], [], [], []⟩ : XCategory), (⟨0, [], [], [], []⟩ : XCategory), [], [], []⟩ : XProfunctor), 1)

def M.impl_has (a0 : List Int) (a1 : Int) : Option Bool :=
  iter (fun (s1 : Int) next2 =>
    if decide (s1 < (a0.length : Int)) then
      (idx a0 s1).bind fun y6 =>
      if y6 == a1 then
        some true
      else
        next2 (IntKind.i64.wrap (s1 + 1))
    else
      some false) fuel 0

def M.impl_Category_between (a0 : XCategory) (a1 : List Int) : Option (List Int) :=
  iter (fun (s1 : (List Int) × Int) next2 =>
    if decide (s1.2 < (a0.From.length : Int)) then
      (idx a0.From s1.2).bind fun y6 =>
      (M.impl_has a1 y6).bind fun v7 =>
      if v7 then
        (idx a0.To s1.2).bind fun y9 =>
        (M.impl_has a1 y9).bind fun v10 =>
        if v10 then
          chk (s1.1.length + (([s1.2] : List Int).length) ≤ lim) (
            next2 (s1.1 ++ ([s1.2] : List Int), IntKind.i64.wrap (s1.2 + 1)))
        else
          next2 (s1.1, IntKind.i64.wrap (s1.2 + 1))
      else
        next2 (s1.1, IntKind.i64.wrap (s1.2 + 1))
    else
      some s1.1) fuel (([] : List Int), 0)

def M.impl_Category_marks (a0 : XCategory) (a1 : List Int) : Option (List Bool) :=
  (M.impl_Category_arrows a0).bind fun v1 =>
  chk ((0 : Int) ≤ v1 ∧ v1 ≤ (lim : Int)) (
    iter (fun (s3 : (List Bool) × Int) next4 =>
      if decide (s3.2 < (a1.length : Int)) then
        (idx a1 s3.2).bind fun y8 =>
        (idx s3.1 y8).bind fun _ =>
        next4 (s3.1.set y8.toNat true, IntKind.i64.wrap (s3.2 + 1))
      else
        some s3.1) fuel ((List.replicate v1.toNat (false : Bool)), 0))

def M.impl_Category_sub (a0 : XCategory) (a1 : List Int) : Option (XCategory × (List Int)) :=
  (M.impl_Category_arrows a0).bind fun v1 =>
  chk ((0 : Int) ≤ v1 ∧ v1 ≤ (lim : Int)) (
    iter (fun (s3 : (List Int) × Int) next4 =>
      if decide (s3.2 < (a1.length : Int)) then
        (idx a1 s3.2).bind fun y8 =>
        (idx s3.1 y8).bind fun _ =>
        next4 (s3.1.set y8.toNat s3.2, IntKind.i64.wrap (s3.2 + 1))
      else
        (M.impl_Category_marks a0 a1).bind fun v10 =>
        chk ((0 : Int) ≤ a0.Objects ∧ a0.Objects ≤ (lim : Int)) (
          iter (fun (s12 : (List Int) × (List Int) × (List Int) × Int) next13 =>
            if decide (s12.2.2.2 < (a0.Identity.length : Int)) then
              (idx a0.Identity s12.2.2.2).bind fun y17 =>
              (idx v10 y17).bind fun y18 =>
              if y18 then
                (idx s12.2.1 s12.2.2.2).bind fun _ =>
                chk (s12.1.length + (([s12.2.2.2] : List Int).length) ≤ lim) (
                  (idx s3.1 y17).bind fun y22 =>
                  chk (s12.2.2.1.length + (([y22] : List Int).length) ≤ lim) (
                    next13 (s12.1 ++ ([s12.2.2.2] : List Int), s12.2.1.set s12.2.2.2.toNat (s12.1.length : Int), s12.2.2.1 ++ ([y22] : List Int), IntKind.i64.wrap (s12.2.2.2 + 1))))
              else
                next13 (s12.1, s12.2.1, s12.2.2.1, IntKind.i64.wrap (s12.2.2.2 + 1))
            else
              iter (fun (s24 : (List Int) × (List Int) × (List (List Int)) × Int) next25 =>
                if decide (s24.2.2.2 < (a1.length : Int)) then
                  (idx a1 s24.2.2.2).bind fun y29 =>
                  (idx a0.From y29).bind fun y30 =>
                  (idx s12.2.1 y30).bind fun y31 =>
                  chk (s24.1.length + (([y31] : List Int).length) ≤ lim) (
                    (idx a0.To y29).bind fun y33 =>
                    (idx s12.2.1 y33).bind fun y34 =>
                    chk (s24.2.1.length + (([y34] : List Int).length) ≤ lim) (
                      iter (fun (s36 : (List Int) × Int) next37 =>
                        if decide (s36.2 < (a1.length : Int)) then
                          (idx a1 s36.2).bind fun y41 =>
                          (M.impl_Category_then a0 y29 y41).bind fun v42 =>
                          if decide (v42 ≥ 0) then
                            (idx s3.1 v42).bind fun y44 =>
                            chk (s36.1.length + (([y44] : List Int).length) ≤ lim) (
                              next37 (s36.1 ++ ([y44] : List Int), IntKind.i64.wrap (s36.2 + 1)))
                          else
                            chk (s36.1.length + (([v42] : List Int).length) ≤ lim) (
                              next37 (s36.1 ++ ([v42] : List Int), IntKind.i64.wrap (s36.2 + 1)))
                        else
                          chk (s24.2.2.1.length + 1 ≤ lim) (
                            next25 (s24.1 ++ ([y31] : List Int), s24.2.1 ++ ([y34] : List Int), s24.2.2.1 ++ [s36.1], IntKind.i64.wrap (s24.2.2.2 + 1)))) fuel (([] : List Int), 0)))
                else
                  some ((⟨(s12.1.length : Int), s24.1, s24.2.1, s12.2.2.1, s24.2.2.1⟩ : XCategory), s12.1)) fuel (([] : List Int), ([] : List Int), ([] : List (List Int)), 0)) fuel (([] : List Int), (List.replicate a0.Objects.toNat (0 : Int)), ([] : List Int), 0))) fuel ((List.replicate v1.toNat (0 : Int)), 0))

def M.impl_ProfunctorOfCollage_1 (a0 : Int) (a1 : Int) (a2 : XCategory) (a3 : Int) : Option Int :=
  (M.impl_Category_hom a2 a0 (IntKind.i64.wrap (a3 + a1))).bind fun v1 =>
  some (v1.length : Int)

def M.impl_ProfunctorOfCollage_2 (a0 : Int) (a1 : Int) (a2 : List Int) (a3 : XCategory) (a4 : Int) : Option (List Int) :=
  (idx a2 a0).bind fun y1 =>
  (idx a3.To y1).bind fun y2 =>
  (M.impl_Category_hom a3 y2 (IntKind.i64.wrap (a4 + a1))).bind fun v3 =>
  iter (fun (s4 : (List Int) × Int) next5 =>
    if decide (s4.2 < (v3.length : Int)) then
      (idx v3 s4.2).bind fun y9 =>
      (idx a3.From y1).bind fun y10 =>
      (M.impl_Category_hom a3 y10 (IntKind.i64.wrap (a4 + a1))).bind fun v11 =>
      (M.impl_Category_then a3 y1 y9).bind fun v12 =>
      (M.impl_index_int64 v11 v12).bind fun v13 =>
      chk (s4.1.length + (([v13] : List Int).length) ≤ lim) (
        next5 (s4.1 ++ ([v13] : List Int), IntKind.i64.wrap (s4.2 + 1)))
    else
      some s4.1) fuel (([] : List Int), 0)

def M.impl_ProfunctorOfCollage_3 (a0 : Int) (a1 : Int) (a2 : List Int) (a3 : XCategory) : Option (List Int) :=
  (idx a2 a0).bind fun y1 =>
  (idx a3.From y1).bind fun y2 =>
  (M.impl_Category_hom a3 a1 y2).bind fun v3 =>
  iter (fun (s4 : (List Int) × Int) next5 =>
    if decide (s4.2 < (v3.length : Int)) then
      (idx v3 s4.2).bind fun y9 =>
      (idx a3.To y1).bind fun y10 =>
      (M.impl_Category_hom a3 a1 y10).bind fun v11 =>
      (M.impl_Category_then a3 y9 y1).bind fun v12 =>
      (M.impl_index_int64 v11 v12).bind fun v13 =>
      chk (s4.1.length + (([v13] : List Int).length) ≤ lim) (
        next5 (s4.1 ++ ([v13] : List Int), IntKind.i64.wrap (s4.2 + 1)))
    else
      some s4.1) fuel (([] : List Int), 0)

def M.impl_ProfunctorOfCollage (a0 : XCategory) (a1 : Int) : Option (XProfunctor × Int) :=
  (M.impl_Category_isCategory a0).bind fun v1 =>
  if v1 then
    (M.impl_inRange a1 0 a0.Objects).bind fun v3 =>
    if v3 then
      iter (fun (s5 : Int) next6 =>
        if decide (s5 < (a0.From.length : Int)) then
          (idx a0.From s5).bind fun y10 =>
          if decide (y10 ≥ a1) then
            (idx a0.To s5).bind fun y12 =>
            if decide (y12 < a1) then
              some ((⟨(⟨0, [], [], [], []⟩ : XCategory), (⟨0, [], [], [], []⟩ : XCategory), [], [], []⟩ : XProfunctor), 5)
            else
              next6 (IntKind.i64.wrap (s5 + 1))
          else
            next6 (IntKind.i64.wrap (s5 + 1))
        else
          (M.impl_numbers a1).bind fun v14 =>
          (M.impl_Category_between a0 v14).bind fun v15 =>
          (M.impl_numbers (IntKind.i64.wrap (a0.Objects - a1))).bind fun v16 =>
          (M.impl_shifted v16 a1).bind fun v17 =>
          (M.impl_Category_between a0 v17).bind fun v18 =>
          (M.impl_Category_sub a0 v15).bind fun v19 =>
          (M.impl_Category_sub a0 v18).bind fun v20 =>
          (M.impl_profunctor v19.1 v20.1 (fun (x0 : Int) (x1 : Int) => M.impl_ProfunctorOfCollage_1 x0 x1 a0 a1) (fun (x0 : Int) (x1 : Int) => M.impl_ProfunctorOfCollage_2 x0 x1 v15 a0 a1) (fun (x0 : Int) (x1 : Int) => M.impl_ProfunctorOfCollage_3 x0 x1 v18 a0)).bind fun v21 =>
          some (v21.1, 0)) fuel 0
    else
      some ((⟨(⟨0, [], [], [], []⟩ : XCategory), (⟨0, [], [], [], []⟩ : XCategory), [], [], []⟩ : XProfunctor), 2)
  else
    some ((⟨(⟨0, [], [], [], []⟩ : XCategory), (⟨0, [], [], [], []⟩ : XCategory), [], [], []⟩ : XProfunctor), 1)

def M.laws_FnExactProfunctorOfCollage (a0 : XCategory) (a1 : Int) : Option Bool :=
  (M.laws_szCategory a0 1048576).bind fun v1 =>
  if decide (v1 < 0) then
    some true
  else
    (M.laws_toCategory a0).bind fun v3 =>
    (M.spec_ProfunctorOfCollage v3 a1).bind fun v4 =>
    (M.impl_ProfunctorOfCollage v3 a1).bind fun v5 =>
    (M.laws_eqProfunctor v5.1 v4.1).bind fun v6 =>
    if v6 then
      if v5.2 != v4.2 then
        some false
      else
        (M.laws_eqCategory v3 v3).bind fun v9 =>
        if v9 then
          (M.laws_markCategory v3 1).bind fun v11 =>
          if decide (v11.1 < 0) then
            some false
          else
            (M.laws_markProfunctor v5.1 1).bind fun v13 =>
            (M.laws_heldProfunctor v13.2 1).bind fun v14 =>
            if decide (v14 < 0) then
              some false
            else
              if v14 != v13.1 then
                some false
              else
                some true
        else
          some false
    else
      some false

end Go.Gx

/- Models of the functions. Printed by wip/gen. -/
namespace Go.Gx

end Go.Gx

/- Models of the functions. Printed by wip/gen. -/
namespace Go.Gx

end Go.Gx

/- Models of the functions. Printed by wip/gen. -/
namespace Go.Gx

end Go.Gx

/- Models of the functions. Printed by wip/gen. -/
namespace Go.Gx

end Go.Gx

/- Models of the functions. Printed by wip/gen. -/
namespace Go.Gx

end Go.Gx
