import Derived.Test.YthafadgnjkmfkaaGxE2
import Derived.Test.YthafadgnjkmfkaaGxEO0
namespace Go.Gx
structure XCategory where
  Objects : Int
  From : List Int
  To : List Int
  Identity : List Int
  Composites : List (List Int)
def eXCategory : Enc XCategory := (eA (eC eI XCategory.Objects) (eA (eC (eS eI) XCategory.From) (eA (eC (eS eI) XCategory.To) (eA (eC (eS eI) XCategory.Identity) (eC (eS (eS eI)) XCategory.Composites)))))
def R.XCategory (x : XCategory) : Prop := (I64 x.Objects) ∧ (AllL I64 x.From) ∧ (AllL I64 x.To) ∧ (AllL I64 x.Identity) ∧ (AllL (AllL I64) x.Composites)
theorem eXCategory_nb : EncNb eXCategory := (eA_nb (eC_nb eI_nb _) (eA_nb (eC_nb (eS_nb eI_nb) _) (eA_nb (eC_nb (eS_nb eI_nb) _) (eA_nb (eC_nb (eS_nb eI_nb) _) (eC_nb (eS_nb (eS_nb eI_nb)) _)))))
structure XFunctor where
  Source : XCategory
  Target : XCategory
  Objects : List Int
  Arrows : List Int
def R.XFunctor (x : XFunctor) : Prop := (R.XCategory x.Source) ∧ (R.XCategory x.Target) ∧ (AllL I64 x.Objects) ∧ (AllL I64 x.Arrows)
structure Xends where
  from_ : Int
  to_ : Int
def eXends : Enc Xends := (eA (eC eI Xends.from_) (eC eI Xends.to_))
def R.Xends (x : Xends) : Prop := (I64 x.from_) ∧ (I64 x.to_)
def M.laws_szInt64S (a0 : List Int) (a1 : Int) : Option Int :=
 if decide ((IntKind.i64.wrap (a1 - (a0.length : Int))) < 0) then
  some (-1)
 else
  some (IntKind.i64.wrap (a1 - (a0.length : Int)))
def M.laws_szInt64SS (a0 : List (List Int)) (a1 : Int) : Option Int :=
 if decide ((IntKind.i64.wrap (a1 - (a0.length : Int))) < 0) then
  some (-1)
 else
  iter (fun (s2 : Int × Int) next3 =>
   if decide (s2.2 < (a0.length : Int)) then
    (idx a0 s2.2).bind fun y7 =>
    (M.laws_szInt64S y7 s2.1).bind fun v8 =>
    if decide (v8 < 0) then
     some (-1)
    else
     next3 (v8, IntKind.i64.wrap (s2.2 + 1))
   else
    some s2.1) fuel (IntKind.i64.wrap (a1 - (a0.length : Int)), 0)
def M.laws_szCategory (a0 : XCategory) (a1 : Int) : Option Int :=
 (M.laws_szInt64S a0.From a1).bind fun v1 =>
 if decide (v1 < 0) then
  some (-1)
 else
  (M.laws_szInt64S a0.To v1).bind fun v3 =>
  if decide (v3 < 0) then
   some (-1)
  else
   (M.laws_szInt64S a0.Identity v3).bind fun v5 =>
   if decide (v5 < 0) then
    some (-1)
   else
    (M.laws_szInt64SS a0.Composites v5).bind fun v7 =>
    if decide (v7 < 0) then
     some (-1)
    else
     some v7
def M.spec_l01In (a0 : Int) (a1 : Int) (a2 : Int) : Option Bool :=
 if decide (a0 ≥ a1) then
  some (decide (a0 ≤ a2))
 else
  some false
def M.spec_l01Map (a0 : Int) (a1 : List Int) : Option Bool :=
 iter (fun (s1 : Int) next2 =>
  if decide (s1 < (a1.length : Int)) then
   (idx a1 s1).bind fun y6 =>
   if decide (y6 < 0) then
    some false
   else
    if decide (y6 ≥ a0) then
     some false
    else
     next2 (IntKind.i64.wrap (s1 + 1))
  else
   some true) fuel 0
def M.spec_l02Ends (a0 : List Int) (a1 : Int) (a2 : Int) : Option Bool :=
 if (a0.length : Int) == a1 then
  (M.spec_l01Map a2 a0).bind fun v2 =>
  some v2
 else
  some false
def M.spec_IsShape (a0 : XCategory) : Option Bool :=
 (M.spec_l01In a0.Objects 0 8).bind fun v1 =>
 if v1 then
  if decide ((a0.From.length : Int) > 40) then
   some false
  else
   (M.spec_l02Ends a0.From (a0.From.length : Int) a0.Objects).bind fun v4 =>
   if v4 then
    (M.spec_l02Ends a0.To (a0.From.length : Int) a0.Objects).bind fun v6 =>
    if v6 then
     if (a0.Composites.length : Int) != (a0.From.length : Int) then
      some false
     else
      if (a0.Identity.length : Int) != a0.Objects then
       some false
      else
       (M.spec_l01Map (a0.From.length : Int) a0.Identity).bind fun v10 =>
       if v10 then
        iter (fun (s12 : Int) next13 =>
         if decide (s12 < a0.Objects) then
          (idx a0.Identity s12).bind fun y17 =>
          (idx a0.From y17).bind fun y18 =>
          if y18 != s12 then
           some false
          else
           (idx a0.To y17).bind fun y20 =>
           if y20 != s12 then
            some false
           else
            next13 (IntKind.i64.wrap (s12 + 1))
         else
          iter (fun (s22 : Int) next23 =>
           if decide (s22 < (a0.From.length : Int)) then
            (idx a0.Composites s22).bind fun y27 =>
            if (y27.length : Int) != (a0.From.length : Int) then
             some false
            else
             iter (fun (s29 : Int) next30 =>
              if decide (s29 < (a0.From.length : Int)) then
               (idx y27 s29).bind fun y34 =>
               (idx a0.To s22).bind fun y35 =>
               (idx a0.From s29).bind fun y36 =>
               if y35 != y36 then
                if y34 != (-1) then
                 some false
                else
                 next30 (IntKind.i64.wrap (s29 + 1))
               else
                if decide (y34 < 0) then
                 some false
                else
                 if decide (y34 ≥ (a0.From.length : Int)) then
                  some false
                 else
                  (idx a0.From y34).bind fun y41 =>
                  (idx a0.From s22).bind fun y42 =>
                  if y41 != y42 then
                   some false
                  else
                   (idx a0.To y34).bind fun y44 =>
                   (idx a0.To s29).bind fun y45 =>
                   if y44 != y45 then
                    some false
                   else
                    next30 (IntKind.i64.wrap (s29 + 1))
              else
               next23 (IntKind.i64.wrap (s22 + 1))) fuel 0
           else
            some true) fuel 0) fuel 0
       else
        some false
    else
     some false
   else
    some false
 else
  some false
def M.spec_l02Fault (a0 : XCategory) : Option (Int × Int × Int × Int) :=
 iter (fun (s1 : Int) next2 =>
  if decide (s1 < (a0.From.length : Int)) then
   (idx a0.From s1).bind fun y6 =>
   (idx a0.Identity y6).bind fun y7 =>
   (idx a0.Composites y7).bind fun y8 =>
   (idx y8 s1).bind fun y9 =>
   if y9 != s1 then
    some (1, s1, 0, 0)
   else
    (idx a0.Composites s1).bind fun y11 =>
    (idx a0.To s1).bind fun y12 =>
    (idx a0.Identity y12).bind fun y13 =>
    (idx y11 y13).bind fun y14 =>
    if y14 != s1 then
     some (1, s1, 0, 0)
    else
     next2 (IntKind.i64.wrap (s1 + 1))
  else
   iter (fun (s16 : Int) next17 =>
    if decide (s16 < (a0.From.length : Int)) then
     iter (fun (s21 : Int) next22 =>
      if decide (s21 < (a0.From.length : Int)) then
       (idx a0.To s16).bind fun y26 =>
       (idx a0.From s21).bind fun y27 =>
       if y26 != y27 then
        next22 (IntKind.i64.wrap (s21 + 1))
       else
        iter (fun (s29 : Int) next30 =>
         if decide (s29 < (a0.From.length : Int)) then
          (idx a0.To s21).bind fun y34 =>
          (idx a0.From s29).bind fun y35 =>
          if y34 == y35 then
           (idx a0.Composites s16).bind fun y37 =>
           (idx y37 s21).bind fun y38 =>
           (idx a0.Composites y38).bind fun y39 =>
           (idx y39 s29).bind fun y40 =>
           (idx a0.Composites s21).bind fun y41 =>
           (idx y41 s29).bind fun y42 =>
           (idx y37 y42).bind fun y43 =>
           if y40 != y43 then
            some (2, s16, s21, s29)
           else
            next30 (IntKind.i64.wrap (s29 + 1))
          else
           next30 (IntKind.i64.wrap (s29 + 1))
         else
          next22 (IntKind.i64.wrap (s21 + 1))) fuel 0
      else
       next17 (IntKind.i64.wrap (s16 + 1))) fuel 0
    else
     some (0, 0, 0, 0)) fuel 0) fuel 0
def M.spec_l02Is (a0 : XCategory) : Option Bool :=
 (M.spec_IsShape a0).bind fun v1 =>
 if v1 then
  (M.spec_l02Fault a0).bind fun v3 =>
  some (v3.1 == 0)
 else
  some false
def M.spec_l01Own (a0 : List Int) : Option (List Int) :=
 chk (([] : List Int).length + a0.length ≤ lim) (
  some (([] : List Int) ++ a0))
def M.laws_toInt64S (a0 : List Int) : Option (List Int) :=
 chk ((0 : Int) ≤ (a0.length : Int) ∧ (a0.length : Int) ≤ (lim : Int)) (
  iter (fun (s2 : (List Int) × Int) next3 =>
   if decide (s2.2 < (a0.length : Int)) then
    (idx a0 s2.2).bind fun y7 =>
    (idx s2.1 s2.2).bind fun _ =>
    next3 (s2.1.set s2.2.toNat y7, IntKind.i64.wrap (s2.2 + 1))
   else
    some s2.1) fuel ((List.replicate (a0.length : Int).toNat (0 : Int)), 0))
def M.laws_toInt64SS (a0 : List (List Int)) : Option (List (List Int)) :=
 chk ((0 : Int) ≤ (a0.length : Int) ∧ (a0.length : Int) ≤ (lim : Int)) (
  iter (fun (s2 : (List (List Int)) × Int) next3 =>
   if decide (s2.2 < (a0.length : Int)) then
    (idx a0 s2.2).bind fun y7 =>
    (M.laws_toInt64S y7).bind fun v8 =>
    (idx s2.1 s2.2).bind fun _ =>
    next3 (s2.1.set s2.2.toNat v8, IntKind.i64.wrap (s2.2 + 1))
   else
    some s2.1) fuel ((List.replicate (a0.length : Int).toNat ([] : List Int)), 0))
def M.laws_toCategory (a0 : XCategory) : Option XCategory :=
 (M.laws_toInt64S a0.From).bind fun v1 =>
 (M.laws_toInt64S a0.To).bind fun v2 =>
 (M.laws_toInt64S a0.Identity).bind fun v3 =>
 (M.laws_toInt64SS a0.Composites).bind fun v4 =>
 some (⟨a0.Objects, v1, v2, v3, v4⟩ : XCategory)
def M.iC_arrows (a0 : XCategory) : Option Int :=
 some (a0.From.length : Int)
def M.impl_inRange (a0 : Int) (a1 : Int) (a2 : Int) : Option Bool :=
 if decide (a0 ≥ a1) then
  some (decide (a0 ≤ a2))
 else
  some false
def M.impl_within (a0 : List Int) (a1 : Int) : Option Bool :=
 iter (fun (s1 : Int) next2 =>
  if decide (s1 < (a0.length : Int)) then
   (idx a0 s1).bind fun y6 =>
   (M.impl_inRange y6 0 (IntKind.i64.wrap (a1 - 1))).bind fun v7 =>
   if v7 then
    next2 (IntKind.i64.wrap (s1 + 1))
   else
    some false
  else
   some true) fuel 0
def M.iC_ends (a0 : XCategory) (a1 : Int) : Option Xends :=
 (idx a0.From a1).bind fun y1 =>
 (idx a0.To a1).bind fun y2 =>
 some (⟨y1, y2⟩ : Xends)
def M.iC_isShape (a0 : XCategory) : Option Bool :=
 (M.iC_arrows a0).bind fun v1 =>
 (M.impl_inRange a0.Objects 0 8).bind fun v2 =>
 if v2 then
  if decide (v1 > 40) then
   some false
  else
   if (a0.To.length : Int) != v1 then
    some false
   else
    (M.impl_within a0.From a0.Objects).bind fun v6 =>
    if v6 then
     (M.impl_within a0.To a0.Objects).bind fun v8 =>
     if v8 then
      if (a0.Identity.length : Int) != a0.Objects then
       some false
      else
       (M.impl_within a0.Identity v1).bind fun v11 =>
       if v11 then
        if (a0.Composites.length : Int) != v1 then
         some false
        else
         iter (fun (s14 : Int) next15 =>
          if decide (s14 < (a0.Identity.length : Int)) then
           (idx a0.Identity s14).bind fun y19 =>
           (M.iC_ends a0 y19).bind fun v20 =>
           if ((v20.from_ == s14) && (v20.to_ == s14)) == false then
            some false
           else
            next15 (IntKind.i64.wrap (s14 + 1))
          else
           iter (fun (s22 : Int) next23 =>
            if decide (s22 < (a0.Composites.length : Int)) then
             (idx a0.Composites s22).bind fun y27 =>
             if (y27.length : Int) != v1 then
              some false
             else
              iter (fun (s29 : Int) next30 =>
               if decide (s29 < (y27.length : Int)) then
                (idx y27 s29).bind fun y34 =>
                (idx a0.To s22).bind fun y35 =>
                (idx a0.From s29).bind fun y36 =>
                if y35 != y36 then
                 if y34 != (-1) then
                  some false
                 else
                  next30 (IntKind.i64.wrap (s29 + 1))
                else
                 (M.impl_inRange y34 0 (IntKind.i64.wrap (v1 - 1))).bind fun v39 =>
                 if v39 then
                  (M.iC_ends a0 y34).bind fun v41 =>
                  (idx a0.From s22).bind fun y42 =>
                  (idx a0.To s29).bind fun y43 =>
                  if ((v41.from_ == y42) && (v41.to_ == y43)) == false then
                   some false
                  else
                   next30 (IntKind.i64.wrap (s29 + 1))
                 else
                  some false
               else
                next23 (IntKind.i64.wrap (s22 + 1))) fuel 0
            else
             some true) fuel 0) fuel 0
       else
        some false
     else
      some false
    else
     some false
 else
  some false
def M.iC_then (a0 : XCategory) (a1 : Int) (a2 : Int) : Option Int :=
 (idx a0.Composites a1).bind fun y1 =>
 (idx y1 a2).bind fun y2 =>
 some y2
def M.iC_fault (a0 : XCategory) : Option (Int × Int × Int × Int) :=
 (M.iC_arrows a0).bind fun v1 =>
 iter (fun (s2 : Int) next3 =>
  if decide (s2 < v1) then
   (idx a0.From s2).bind fun y7 =>
   (idx a0.Identity y7).bind fun y8 =>
   (M.iC_then a0 y8 s2).bind fun v9 =>
   if v9 != s2 then
    some (1, s2, 0, 0)
   else
    (idx a0.To s2).bind fun y11 =>
    (idx a0.Identity y11).bind fun y12 =>
    (M.iC_then a0 s2 y12).bind fun v13 =>
    if v13 != s2 then
     some (1, s2, 0, 0)
    else
     next3 (IntKind.i64.wrap (s2 + 1))
  else
   iter (fun (s15 : Int) next16 =>
    if decide (s15 < v1) then
     iter (fun (s20 : Int) next21 =>
      if decide (s20 < v1) then
       (M.iC_then a0 s15 s20).bind fun v25 =>
       if decide (v25 < 0) then
        next21 (IntKind.i64.wrap (s20 + 1))
       else
        iter (fun (s27 : Int) next28 =>
         if decide (s27 < v1) then
          (M.iC_then a0 s20 s27).bind fun v32 =>
          if decide (v32 ≥ 0) then
           (M.iC_then a0 v25 s27).bind fun v34 =>
           (M.iC_then a0 s15 v32).bind fun v35 =>
           if v34 != v35 then
            some (2, s15, s20, s27)
           else
            next28 (IntKind.i64.wrap (s27 + 1))
          else
           next28 (IntKind.i64.wrap (s27 + 1))
         else
          next21 (IntKind.i64.wrap (s20 + 1))) fuel 0
      else
       next16 (IntKind.i64.wrap (s15 + 1))) fuel 0
    else
     some (0, 0, 0, 0)) fuel 0) fuel 0
def M.iC_isCategory (a0 : XCategory) : Option Bool :=
 (M.iC_isShape a0).bind fun v1 =>
 if v1 then
  (M.iC_fault a0).bind fun v3 =>
  some (v3.1 == 0)
 else
  some false
def M.impl_clone (a0 : List Int) : Option (List Int) :=
 chk (([] : List Int).length + a0.length ≤ lim) (
  some (([] : List Int) ++ a0))
def M.iC_table (a0 : XCategory) (a1 : Int → Int → Option Int) : Option XCategory :=
 (M.iC_arrows a0).bind fun v1 =>
 chk ((0 : Int) ≤ v1 ∧ v1 ≤ (lim : Int)) (
  iter (fun (s3 : (List (List Int)) × Int) next4 =>
   if decide (s3.2 < ((List.replicate v1.toNat ([] : List Int)).length : Int)) then
    (idx s3.1 s3.2).bind fun _ =>
    (idx (s3.1.set s3.2.toNat (List.replicate v1.toNat (0 : Int))) s3.2).bind fun y9 =>
    iter (fun (s10 : (List (List Int)) × Int) next11 =>
     if decide (s10.2 < (y9.length : Int)) then
      (idx s10.1 s3.2).bind fun y15 =>
      (idx y15 s10.2).bind fun _ =>
      (idx a0.To s3.2).bind fun y17 =>
      (idx a0.From s10.2).bind fun y18 =>
      if y17 == y18 then
       (idx (s10.1.set s3.2.toNat (y15.set s10.2.toNat (-1))) s3.2).bind fun y20 =>
       (a1 s3.2 s10.2).bind fun v21 =>
       (idx y20 s10.2).bind fun _ =>
       next11 ((s10.1.set s3.2.toNat (y15.set s10.2.toNat (-1))).set s3.2.toNat (y20.set s10.2.toNat v21), IntKind.i64.wrap (s10.2 + 1))
      else
       next11 (s10.1.set s3.2.toNat (y15.set s10.2.toNat (-1)), IntKind.i64.wrap (s10.2 + 1))
     else
      next4 (s10.1, IntKind.i64.wrap (s3.2 + 1))) fuel (s3.1.set s3.2.toNat (List.replicate v1.toNat (0 : Int)), 0)
   else
    some (⟨a0.Objects, a0.From, a0.To, a0.Identity, s3.1⟩ : XCategory)) fuel ((List.replicate v1.toNat ([] : List Int)), 0))
def M.impl_clones (a0 : List (List Int)) : Option (List (List Int)) :=
 chk ((0 : Int) ≤ (a0.length : Int) ∧ (a0.length : Int) ≤ (lim : Int)) (
  iter (fun (s2 : (List (List Int)) × Int) next3 =>
   if decide (s2.2 < (a0.length : Int)) then
    (idx a0 s2.2).bind fun y7 =>
    (M.impl_clone y7).bind fun v8 =>
    chk (s2.1.length + 1 ≤ lim) (
     next3 (s2.1 ++ [v8], IntKind.i64.wrap (s2.2 + 1)))
   else
    some s2.1) fuel (([] : List (List Int)), 0))
def M.iC_copy (a0 : XCategory) : Option XCategory :=
 (M.impl_clone a0.From).bind fun v1 =>
 (M.impl_clone a0.To).bind fun v2 =>
 (M.impl_clone a0.Identity).bind fun v3 =>
 (M.impl_clones a0.Composites).bind fun v4 =>
 some (⟨a0.Objects, v1, v2, v3, v4⟩ : XCategory)
def M.laws_eqInt64S (a0 : List Int) (a1 : List Int) : Option Bool :=
 if (a0.length : Int) != (a1.length : Int) then
  some false
 else
  iter (fun (s2 : Int) next3 =>
   if decide (s2 < (a0.length : Int)) then
    (idx a0 s2).bind fun y7 =>
    (idx a1 s2).bind fun y8 =>
    if y7 != y8 then
     some false
    else
     next3 (IntKind.i64.wrap (s2 + 1))
   else
    some true) fuel 0
def M.laws_eqInt64SS (a0 : List (List Int)) (a1 : List (List Int)) : Option Bool :=
 if (a0.length : Int) != (a1.length : Int) then
  some false
 else
  iter (fun (s2 : Int) next3 =>
   if decide (s2 < (a0.length : Int)) then
    (idx a0 s2).bind fun y7 =>
    (idx a1 s2).bind fun y8 =>
    (M.laws_eqInt64S y7 y8).bind fun v9 =>
    if v9 then
     next3 (IntKind.i64.wrap (s2 + 1))
    else
     some false
   else
    some true) fuel 0
def M.laws_eqCategory (a0 : XCategory) (a1 : XCategory) : Option Bool :=
 if a0.Objects != a1.Objects then
  some false
 else
  (M.laws_eqInt64S a0.From a1.From).bind fun v2 =>
  if v2 then
   (M.laws_eqInt64S a0.To a1.To).bind fun v4 =>
   if v4 then
    (M.laws_eqInt64S a0.Identity a1.Identity).bind fun v6 =>
    if v6 then
     (M.laws_eqInt64SS a0.Composites a1.Composites).bind fun v8 =>
     if v8 then
      some true
     else
      some false
    else
     some false
   else
    some false
  else
   some false
def M.laws_markInt64S (a0 : List Int) (a1 : Int) : Option (Int × (List Int)) :=
 iter (fun (s1 : (List Int) × Int × Int) next2 =>
  if decide (s1.2.2 < (s1.1.length : Int)) then
   (idx s1.1 s1.2.2).bind fun _ =>
   next2 (s1.1.set s1.2.2.toNat s1.2.1, IntKind.i64.wrap (s1.2.1 + 1), IntKind.i64.wrap (s1.2.2 + 1))
  else
   some (s1.2.1, s1.1)) fuel (a0, a1, 0)
theorem M.len_markInt64S {a0 : List Int} {a1 : Int} {r : Int × (List Int)} (h : M.laws_markInt64S a0 a1 = some r) : a0.length = r.2.length := by
  unfold M.laws_markInt64S at h
  refine iter_pres (fun s => s.1.length = a0.length) (fun r => a0.length = r.2.length) ?_ _ _ _ rfl h
  intro s next r hs hn h
  try dsimp only at h
  split at h
  · obtain ⟨_, _, h⟩ := bind_some' h
    exact hn _ (by simpa using hs) h
  · obtain rfl := Option.some.inj h; exact hs.symm
def M.laws_markInt64SS (a0 : List (List Int)) (a1 : Int) : Option (Int × (List (List Int))) :=
 iter (fun (s1 : (List (List Int)) × Int × Int) next2 =>
  if decide (s1.2.2 < (s1.1.length : Int)) then
   (idx s1.1 s1.2.2).bind fun y6 =>
   (M.laws_markInt64S y6 s1.2.1).bind fun v7 =>
   next2 (s1.1.set s1.2.2.toNat v7.2, v7.1, IntKind.i64.wrap (s1.2.2 + 1))
  else
   some (s1.2.1, s1.1)) fuel (a0, a1, 0)
theorem M.len_markInt64SS {a0 : List (List Int)} {a1 : Int} {r : Int × (List (List Int))} (h : M.laws_markInt64SS a0 a1 = some r) : a0.length = r.2.length := by
  unfold M.laws_markInt64SS at h
  refine iter_pres (fun s => s.1.length = a0.length) (fun r => a0.length = r.2.length) ?_ _ _ _ rfl h
  intro s next r hs hn h
  try dsimp only at h
  split at h
  · obtain ⟨_, _, h⟩ := bind_some' h
    obtain ⟨_, _, h⟩ := bind_some' h
    exact hn _ (by simpa using hs) h
  · obtain rfl := Option.some.inj h; exact hs.symm
def M.laws_markCategory (a0 : XCategory) (a1 : Int) : Option (Int × XCategory) :=
 (M.laws_markInt64S a0.From a1).bind fun v1 =>
 (M.laws_markInt64S a0.To v1.1).bind fun v2 =>
 (M.laws_markInt64S a0.Identity v2.1).bind fun v3 =>
 (M.laws_markInt64SS a0.Composites v3.1).bind fun v4 =>
 some (v4.1, (⟨a0.Objects, v1.2, v2.2, v3.2, v4.2⟩ : XCategory))
theorem M.len_markCategory {a0 : XCategory} {a1 : Int} {r : Int × XCategory} (h : M.laws_markCategory a0 a1 = some r) : a0.Objects = r.2.Objects ∧ a0.From.length = r.2.From.length ∧ a0.To.length = r.2.To.length ∧ a0.Identity.length = r.2.Identity.length ∧ a0.Composites.length = r.2.Composites.length := by
  unfold M.laws_markCategory at h
  obtain ⟨v0, h0, h⟩ := bind_some' h
  have l0 := M.len_markInt64S h0
  obtain ⟨v1, h1, h⟩ := bind_some' h
  have l1 := M.len_markInt64S h1
  obtain ⟨v2, h2, h⟩ := bind_some' h
  have l2 := M.len_markInt64S h2
  obtain ⟨v3, h3, h⟩ := bind_some' h
  have l3 := M.len_markInt64SS h3
  obtain rfl := Option.some.inj h
  refine ⟨?_, ?_, ?_, ?_, ?_⟩ <;> dsimp only <;> omega
theorem rsC_eXCategory (q : Nat) {x y : XCategory} (h : x.Objects = y.Objects ∧ x.From.length = y.From.length ∧ x.To.length = y.To.length ∧ x.Identity.length = y.Identity.length ∧ x.Composites.length = y.Composites.length) : rsC q (eXCategory.o x) = rsC q (eXCategory.o y) := by
  obtain ⟨h0, h1, h2, h3, h4⟩ := h
  have e : ∀ z : XCategory, rsC q (eXCategory.o z) = [iv z.Objects, .rs (q + 1) 0 z.From.length, .rs (q + 1 + 1) 0 z.To.length, .rs (q + 1 + 1 + 1) 0 z.Identity.length, .rs (q + 1 + 1 + 1 + 1) 0 z.Composites.length] := fun _ => rfl
  rw [e, e, h0, h1, h2, h3, h4]
def M.laws_heldInt64S (a0 : List Int) (a1 : Int) : Option Int :=
 iter (fun (s1 : Int × Int) next2 =>
  if decide (s1.2 < (a0.length : Int)) then
   (idx a0 s1.2).bind fun y6 =>
   if y6 != s1.1 then
    some (-1)
   else
    next2 (IntKind.i64.wrap (s1.1 + 1), IntKind.i64.wrap (s1.2 + 1))
  else
   some s1.1) fuel (a1, 0)
def M.laws_heldInt64SS (a0 : List (List Int)) (a1 : Int) : Option Int :=
 iter (fun (s1 : Int × Int) next2 =>
  if decide (s1.2 < (a0.length : Int)) then
   (idx a0 s1.2).bind fun y6 =>
   (M.laws_heldInt64S y6 s1.1).bind fun v7 =>
   if decide (v7 < 0) then
    some (-1)
   else
    next2 (v7, IntKind.i64.wrap (s1.2 + 1))
  else
   some s1.1) fuel (a1, 0)
def M.laws_heldCategory (a0 : XCategory) (a1 : Int) : Option Int :=
 (M.laws_heldInt64S a0.From a1).bind fun v1 =>
 if decide (v1 < 0) then
  some (-1)
 else
  (M.laws_heldInt64S a0.To v1).bind fun v3 =>
  if decide (v3 < 0) then
   some (-1)
  else
   (M.laws_heldInt64S a0.Identity v3).bind fun v5 =>
   if decide (v5 < 0) then
    some (-1)
   else
    (M.laws_heldInt64SS a0.Composites v5).bind fun v7 =>
    if decide (v7 < 0) then
     some (-1)
    else
     some v7
end Go.Gx
namespace Go.Gx
structure XTransformation where
  Source : XFunctor
  Target : XFunctor
  Components : List Int
def R.XTransformation (x : XTransformation) : Prop := (R.XFunctor x.Source) ∧ (R.XFunctor x.Target) ∧ (AllL I64 x.Components)
end Go.Gx
namespace Go.Gx
def M.impl_compare (a0 : List Int) (a1 : List Int) : Option Int :=
 iter (fun (s1 : Int) next2 =>
  if decide (s1 < (a0.length : Int)) then
   if s1 == (a1.length : Int) then
    some 1
   else
    (idx a0 s1).bind fun y7 =>
    (idx a1 s1).bind fun y8 =>
    if y7 != y8 then
     if decide (y7 < y8) then
      some (-1)
     else
      some 1
    else
     next2 (IntKind.i64.wrap (s1 + 1))
  else
   if decide ((a0.length : Int) < (a1.length : Int)) then
    some (-1)
   else
    some 0) fuel 0
end Go.Gx
namespace Go.Gx
def M.impl_backwards (a0 : List Int) : Option (List Int) :=
 chk ((0 : Int) ≤ (a0.length : Int) ∧ (a0.length : Int) ≤ (lim : Int)) (
  iter (fun (s2 : (List Int) × Int) next3 =>
   if decide (s2.2 < (a0.length : Int)) then
    (idx a0 s2.2).bind fun y7 =>
    (idx s2.1 y7).bind fun _ =>
    next3 (s2.1.set y7.toNat s2.2, IntKind.i64.wrap (s2.2 + 1))
   else
    some s2.1) fuel ((List.replicate (a0.length : Int).toNat (0 : Int)), 0))
end Go.Gx
namespace Go.Gx
end Go.Gx
namespace Go.Gx
def M.impl_numbers (a0 : Int) : Option (List Int) :=
 chk ((0 : Int) ≤ a0 ∧ a0 ≤ (lim : Int)) (
  iter (fun (s2 : (List Int) × Int) next3 =>
   if decide (s2.2 < ((List.replicate a0.toNat (0 : Int)).length : Int)) then
    (idx s2.1 s2.2).bind fun _ =>
    next3 (s2.1.set s2.2.toNat s2.2, IntKind.i64.wrap (s2.2 + 1))
   else
    some s2.1) fuel ((List.replicate a0.toNat (0 : Int)), 0))
def M.spec_l02Hom (a0 : XCategory) (a1 : Int) (a2 : Int) : Option (List Int) :=
 iter (fun (s1 : (List Int) × Int) next2 =>
  if decide (s1.2 < (a0.From.length : Int)) then
   (idx a0.From s1.2).bind fun y6 =>
   if y6 == a1 then
    (idx a0.To s1.2).bind fun y8 =>
    if y8 == a2 then
     chk (s1.1.length + (([s1.2] : List Int).length) ≤ lim) (
      next2 (s1.1 ++ ([s1.2] : List Int), IntKind.i64.wrap (s1.2 + 1)))
    else
     next2 (s1.1, IntKind.i64.wrap (s1.2 + 1))
   else
    next2 (s1.1, IntKind.i64.wrap (s1.2 + 1))
  else
   some s1.1) fuel (([] : List Int), 0)
def M.iC_hom (a0 : XCategory) (a1 : Int) (a2 : Int) : Option (List Int) :=
 iter (fun (s1 : (List Int) × Int) next2 =>
  if decide (s1.2 < (a0.From.length : Int)) then
   (idx a0.From s1.2).bind fun y6 =>
   if y6 == a1 then
    (idx a0.To s1.2).bind fun y8 =>
    if y8 == a2 then
     chk (s1.1.length + (([s1.2] : List Int).length) ≤ lim) (
      next2 (s1.1 ++ ([s1.2] : List Int), IntKind.i64.wrap (s1.2 + 1)))
    else
     next2 (s1.1, IntKind.i64.wrap (s1.2 + 1))
   else
    next2 (s1.1, IntKind.i64.wrap (s1.2 + 1))
  else
   some s1.1) fuel (([] : List Int), 0)
end Go.Gx
namespace Go.Gx
end Go.Gx
namespace Go.Gx
end Go.Gx
namespace Go.Gx
structure XMonoidal where
  On : XCategory
  Unit : Int
  Objects : List (List Int)
  Arrows : List (List Int)
def R.XMonoidal (x : XMonoidal) : Prop := (R.XCategory x.On) ∧ (I64 x.Unit) ∧ (AllL (AllL I64) x.Objects) ∧ (AllL (AllL I64) x.Arrows)
def M.iC_isIdentity (a0 : XCategory) (a1 : Int) : Option Bool :=
 (idx a0.From a1).bind fun y1 =>
 (idx a0.Identity y1).bind fun y2 =>
 some (y2 == a1)
end Go.Gx
namespace Go.Gx
def M.spec_l10Times (a0 : Int) (a1 : Int) : Option Int :=
 iter (fun (s1 : Int × Int) next2 =>
  if decide (s1.2 ≤ a1) then
   if decide (s1.1 ≤ 5000) then
    next2 (IntKind.i64.wrap (s1.1 * s1.2), IntKind.i64.wrap (s1.2 + 1))
   else
    some s1.1
  else
   some s1.1) fuel (a0, 2)
def M.spec_l10Count (a0 : XCategory) : Option Int :=
 (M.spec_l10Times 1 a0.Objects).bind fun v1 =>
 iter (fun (s2 : Int × Int) next3 =>
  if decide (s2.2 < a0.Objects) then
   iter (fun (s7 : Int × Int) next8 =>
    if decide (s7.2 < a0.Objects) then
     (M.spec_l02Hom a0 s2.2 s7.2).bind fun v12 =>
     if s2.2 == s7.2 then
      (M.spec_l10Times s7.1 (IntKind.i64.wrap ((v12.length : Int) - 1))).bind fun v14 =>
      next8 (v14, IntKind.i64.wrap (s7.2 + 1))
     else
      (M.spec_l10Times s7.1 (v12.length : Int)).bind fun v15 =>
      next8 (v15, IntKind.i64.wrap (s7.2 + 1))
    else
     next3 (s7.1, IntKind.i64.wrap (s2.2 + 1))) fuel (s2.1, 0)
  else
   some s2.1) fuel (v1, 0)
def M.spec_CountNumberings (a0 : XCategory) : Option (Int × Int) :=
 (M.spec_l02Is a0).bind fun v1 =>
 if v1 then
  (M.spec_l10Count a0).bind fun v3 =>
  if decide (v3 > 5000) then
   some (0, 3)
  else
   some (v3, 0)
 else
  some (0, 1)
def M.iC_numberings_1 (a0 : Int) (a1 : Int) : Option Int :=
 iter (fun (s1 : Int × Int) next2 =>
  if decide (s1.2 ≤ a0) then
   next2 (if (5001 : Int) < (IntKind.i64.wrap (s1.1 * s1.2)) then 5001 else (IntKind.i64.wrap (s1.1 * s1.2)), IntKind.i64.wrap (s1.2 + 1))
  else
   some s1.1) fuel (a1, 2)
def M.iC_homSizes (a0 : XCategory) : Option (Nat → Int) :=
 iter (fun (s1 : (Nat → Int) × Int) next2 =>
  if decide (s1.2 < (a0.From.length : Int)) then
   (idx a0.From s1.2).bind fun y6 =>
   (idx a0.To s1.2).bind fun y7 =>
   chk ((0 : Int) ≤ y6 ∧ y6 < 8) (
    chk ((0 : Int) ≤ y7 ∧ y7 < 8) (
     next2 (upN s1.1 (0 + y6.toNat * 8 + y7.toNat * 1) (IntKind.i64.wrap ((s1.1 (0 + y6.toNat * 8 + y7.toNat * 1)) + 1)), IntKind.i64.wrap (s1.2 + 1))))
  else
   some s1.1) fuel (fun _ => (0 : Int), 0)
def M.iC_numberings (a0 : XCategory) : Option Int :=
 (M.iC_numberings_1 a0.Objects 1).bind fun v1 =>
 (M.iC_homSizes a0).bind fun v2 =>
 iter (fun (s3 : Int × Int) next4 =>
  if decide (s3.2 < 8) then
   chk ((0 : Int) ≤ s3.2 ∧ s3.2 < 8) (
    iter (fun (s9 : Int × Int) next10 =>
     if decide (s9.2 < 8) then
      chk ((0 : Int) ≤ s9.2 ∧ s9.2 < 8) (
       if s3.2 == s9.2 then
        (M.iC_numberings_1 (IntKind.i64.wrap (((fun q => v2 (s3.2.toNat * 8 + q)) (s9.2.toNat * 1)) - 1)) s9.1).bind fun v16 =>
        next10 (v16, IntKind.i64.wrap (s9.2 + 1))
       else
        (M.iC_numberings_1 ((fun q => v2 (s3.2.toNat * 8 + q)) (s9.2.toNat * 1)) s9.1).bind fun v17 =>
        next10 (v17, IntKind.i64.wrap (s9.2 + 1)))
     else
      next4 (s9.1, IntKind.i64.wrap (s3.2 + 1))) fuel (s3.1, 0))
  else
   some s3.1) fuel (v1, 0)
end Go.Gx
namespace Go.Gx
def M.spec_l10Orders_n : Nat → List Int → Int → Option (List (List Int))
 | 0, _, _ => none
 | k + 1, a0, a1 =>
  if decide (a1 ≥ (a0.length : Int)) then
   (M.spec_l01Own a0).bind fun v2 =>
   some ([v2] : List (List Int))
  else
   iter (fun (s3 : (List (List Int)) × Int) next4 =>
    if decide (s3.2 < (a0.length : Int)) then
     chk ((0 : Int) ≤ a1 ∧ a1 ≤ (a0.length : Int)) (
      (M.spec_l01Own (a0.take a1.toNat)).bind fun v9 =>
      (idx a0 s3.2).bind fun y10 =>
      chk (v9.length + (([y10] : List Int).length) ≤ lim) (
       chk ((0 : Int) ≤ a1 ∧ a1 ≤ s3.2 ∧ s3.2 ≤ (a0.length : Int)) (
        chk ((v9 ++ ([y10] : List Int)).length + (((a0.drop a1.toNat).take (s3.2.toNat - a1.toNat)).length) ≤ lim) (
         chk ((0 : Int) ≤ (IntKind.i64.wrap (s3.2 + 1)) ∧ (IntKind.i64.wrap (s3.2 + 1)) ≤ (a0.length : Int)) (
          chk (((v9 ++ ([y10] : List Int)) ++ ((a0.drop a1.toNat).take (s3.2.toNat - a1.toNat))).length + ((a0.drop (IntKind.i64.wrap (s3.2 + 1)).toNat).length) ≤ lim) (
           (M.spec_l10Orders_n k (((v9 ++ ([y10] : List Int)) ++ ((a0.drop a1.toNat).take (s3.2.toNat - a1.toNat))) ++ (a0.drop (IntKind.i64.wrap (s3.2 + 1)).toNat)) (IntKind.i64.wrap (a1 + 1))).bind fun v16 =>
           chk (s3.1.length + v16.length ≤ lim) (
            next4 (s3.1 ++ v16, IntKind.i64.wrap (s3.2 + 1)))))))))
    else
     some s3.1) fuel (([] : List (List Int)), a1)
def M.spec_l10Orders (a0 : List Int) (a1 : Int) : Option (List (List Int)) := M.spec_l10Orders_n fuel a0 a1
def M.spec_l10Lists (a0 : XCategory) (a1 : List Int) : Option (List (List Int)) :=
 iter (fun (s1 : (List (List Int)) × Int) next2 =>
  if decide (s1.2 < (a1.length : Int)) then
   iter (fun (s6 : (List (List Int)) × Int) next7 =>
    if decide (s6.2 < (a1.length : Int)) then
     (idx a1 s1.2).bind fun y11 =>
     (idx a1 s6.2).bind fun y12 =>
     (M.spec_l02Hom a0 y11 y12).bind fun v13 =>
     joinM (fun (s14 : (List Int) × Int) =>
      (M.spec_l10Orders s14.1 s14.2).bind fun v17 =>
      iter (fun (s18 : (List (List Int)) × Int) next19 =>
       if decide (s18.2 < (s6.1.length : Int)) then
        iter (fun (s23 : (List (List Int)) × Int) next24 =>
         if decide (s23.2 < (v17.length : Int)) then
          (idx s6.1 s18.2).bind fun y28 =>
          (M.spec_l01Own y28).bind fun v29 =>
          (idx v17 s23.2).bind fun y30 =>
          chk (v29.length + y30.length ≤ lim) (
           chk (s23.1.length + 1 ≤ lim) (
            next24 (s23.1 ++ [v29 ++ y30], IntKind.i64.wrap (s23.2 + 1))))
         else
          next19 (s23.1, IntKind.i64.wrap (s18.2 + 1))) fuel (s18.1, 0)
       else
        next7 (s18.1, IntKind.i64.wrap (s6.2 + 1))) fuel (([] : List (List Int)), 0)) fun k15 =>
     if s1.2 == s6.2 then
      (idx a0.Identity y11).bind fun y34 =>
      iter (fun (s35 : (List Int) × Int) next36 =>
       if decide (s35.2 < (v13.length : Int)) then
        (idx v13 s35.2).bind fun y40 =>
        (idx s35.1 0).bind fun y41 =>
        if y40 != y41 then
         chk (s35.1.length + (([y40] : List Int).length) ≤ lim) (
          next36 (s35.1 ++ ([y40] : List Int), IntKind.i64.wrap (s35.2 + 1)))
        else
         next36 (s35.1, IntKind.i64.wrap (s35.2 + 1))
       else
        k15 (s35.1, 1)) fuel (([y34] : List Int), 0)
     else
      k15 (v13, 0)
    else
     next2 (s6.1, IntKind.i64.wrap (s1.2 + 1))) fuel (s1.1, 0)
  else
   some s1.1) fuel (([[]] : List (List Int)), 0)
def M.spec_l19Back (a0 : List Int) : Option (List Int) :=
 chk ((0 : Int) ≤ (a0.length : Int) ∧ (a0.length : Int) ≤ (lim : Int)) (
  iter (fun (s2 : (List Int) × Int) next3 =>
   if decide (s2.2 < (a0.length : Int)) then
    (idx a0 s2.2).bind fun y7 =>
    (idx s2.1 y7).bind fun _ =>
    next3 (s2.1.set y7.toNat s2.2, IntKind.i64.wrap (s2.2 + 1))
   else
    some s2.1) fuel ((List.replicate (a0.length : Int).toNat (0 : Int)), 0))
def M.spec_l10Renumber (a0 : XCategory) (a1 : List Int) (a2 : List Int) : Option XCategory :=
 (M.spec_l19Back a1).bind fun v1 =>
 (M.spec_l19Back a2).bind fun v2 =>
 iter (fun (s3 : (List Int) × Int) next4 =>
  if decide (s3.2 < (v1.length : Int)) then
   (idx v1 s3.2).bind fun y8 =>
   (idx a0.Identity y8).bind fun y9 =>
   (idx a2 y9).bind fun y10 =>
   chk (s3.1.length + (([y10] : List Int).length) ≤ lim) (
    next4 (s3.1 ++ ([y10] : List Int), IntKind.i64.wrap (s3.2 + 1)))
  else
   iter (fun (s12 : (List Int) × (List Int) × (List (List Int)) × Int) next13 =>
    if decide (s12.2.2.2 < (v2.length : Int)) then
     (idx v2 s12.2.2.2).bind fun y17 =>
     (idx a0.From y17).bind fun y18 =>
     (idx a1 y18).bind fun y19 =>
     chk (s12.1.length + (([y19] : List Int).length) ≤ lim) (
      (idx a0.To y17).bind fun y21 =>
      (idx a1 y21).bind fun y22 =>
      chk (s12.2.1.length + (([y22] : List Int).length) ≤ lim) (
       iter (fun (s24 : (List Int) × Int) next25 =>
        if decide (s24.2 < (v2.length : Int)) then
         (idx a0.Composites y17).bind fun y29 =>
         (idx v2 s24.2).bind fun y30 =>
         (idx y29 y30).bind fun y31 =>
         if decide (y31 ≥ 0) then
          (idx a2 y31).bind fun y33 =>
          chk (s24.1.length + (([y33] : List Int).length) ≤ lim) (
           next25 (s24.1 ++ ([y33] : List Int), IntKind.i64.wrap (s24.2 + 1)))
         else
          chk (s24.1.length + (([y31] : List Int).length) ≤ lim) (
           next25 (s24.1 ++ ([y31] : List Int), IntKind.i64.wrap (s24.2 + 1)))
        else
         chk (s12.2.2.1.length + 1 ≤ lim) (
          next13 (s12.1 ++ ([y19] : List Int), s12.2.1 ++ ([y22] : List Int), s12.2.2.1 ++ [s24.1], IntKind.i64.wrap (s12.2.2.2 + 1)))) fuel (([] : List Int), 0)))
    else
     some (⟨a0.Objects, s12.1, s12.2.1, s3.1, s12.2.2.1⟩ : XCategory)) fuel (([] : List Int), ([] : List Int), ([] : List (List Int)), 0)) fuel (([] : List Int), 0)
def M.spec_l01Flat (a0 : List (List Int)) : Option (List Int) :=
 iter (fun (s1 : (List Int) × Int) next2 =>
  if decide (s1.2 < (a0.length : Int)) then
   (idx a0 s1.2).bind fun y6 =>
   chk (s1.1.length + y6.length ≤ lim) (
    next2 (s1.1 ++ y6, IntKind.i64.wrap (s1.2 + 1)))
  else
   some s1.1) fuel (([] : List Int), 0)
def M.spec_l10Mark (a0 : XCategory) : Option (List Int) :=
 iter (fun (s1 : (List Int) × Int) next2 =>
  if decide (s1.2 < a0.Objects) then
   iter (fun (s6 : (List Int) × Int) next7 =>
    if decide (s6.2 < a0.Objects) then
     (M.spec_l02Hom a0 s1.2 s6.2).bind fun v11 =>
     chk (s6.1.length + (([(v11.length : Int)] : List Int).length) ≤ lim) (
      next7 (s6.1 ++ ([(v11.length : Int)] : List Int), IntKind.i64.wrap (s6.2 + 1)))
    else
     next2 (s6.1, IntKind.i64.wrap (s1.2 + 1))) fuel (s1.1, 0)
  else
   (M.spec_l01Flat a0.Composites).bind fun v13 =>
   chk (s1.1.length + v13.length ≤ lim) (
    some (s1.1 ++ v13))) fuel (([] : List Int), 0)
def M.spec_l01Less (a0 : List Int) (a1 : List Int) : Option Bool :=
 iter (fun (s1 : Int) next2 =>
  if decide (s1 < (a0.length : Int)) then
   if decide (s1 < (a1.length : Int)) then
    (idx a0 s1).bind fun y7 =>
    (idx a1 s1).bind fun y8 =>
    if y7 != y8 then
     some (decide (y7 < y8))
    else
     next2 (IntKind.i64.wrap (s1 + 1))
   else
    some (decide ((a0.length : Int) < (a1.length : Int)))
  else
   some (decide ((a0.length : Int) < (a1.length : Int)))) fuel 0
def M.spec_l10Least (a0 : XCategory) : Option XCategory :=
 iter (fun (s1 : (List Int) × Int) next2 =>
  if decide (s1.2 < a0.Objects) then
   chk (s1.1.length + (([s1.2] : List Int).length) ≤ lim) (
    next2 (s1.1 ++ ([s1.2] : List Int), IntKind.i64.wrap (s1.2 + 1)))
  else
   (M.spec_l10Orders s1.1 0).bind fun v7 =>
   iter (fun (s8 : (List Int) × Int × (List Int) × (List Int) × (List Int) × (List (List Int)) × Int) next9 =>
    if decide (s8.2.2.2.2.2.2 < (v7.length : Int)) then
     (idx v7 s8.2.2.2.2.2.2).bind fun y13 =>
     (M.spec_l10Lists a0 y13).bind fun v14 =>
     iter (fun (s15 : (List Int) × Int × (List Int) × (List Int) × (List Int) × (List (List Int)) × Int) next16 =>
      if decide (s15.2.2.2.2.2.2 < (v14.length : Int)) then
       joinM (fun (s20 : (List Int) × (List Int) × (List Int) × (List (List Int)) × (List Int) × Int) =>
        next16 (s20.2.2.2.2.1, s20.2.2.2.2.2, s20.1, s20.2.1, s20.2.2.1, s20.2.2.2.1, IntKind.i64.wrap (s15.2.2.2.2.2.2 + 1))) fun k21 =>
       (M.spec_l19Back y13).bind fun v23 =>
       (idx v14 s15.2.2.2.2.2.2).bind fun y24 =>
       (M.spec_l19Back y24).bind fun v25 =>
       (M.spec_l10Renumber a0 v23 v25).bind fun v26 =>
       (M.spec_l10Mark v26).bind fun v27 =>
       if s8.2.2.2.2.2.2 == 0 then
        if s15.2.2.2.2.2.2 == 0 then
         k21 (v26.From, v26.To, v26.Identity, v26.Composites, v27, v26.Objects)
        else
         (M.spec_l01Less v27 s15.1).bind fun v30 =>
         if v30 then
          k21 (v26.From, v26.To, v26.Identity, v26.Composites, v27, v26.Objects)
         else
          k21 (s15.2.2.1, s15.2.2.2.1, s15.2.2.2.2.1, s15.2.2.2.2.2.1, s15.1, s15.2.1)
       else
        (M.spec_l01Less v27 s15.1).bind fun v32 =>
        if v32 then
         k21 (v26.From, v26.To, v26.Identity, v26.Composites, v27, v26.Objects)
        else
         k21 (s15.2.2.1, s15.2.2.2.1, s15.2.2.2.2.1, s15.2.2.2.2.2.1, s15.1, s15.2.1)
      else
       next9 (s15.1, s15.2.1, s15.2.2.1, s15.2.2.2.1, s15.2.2.2.2.1, s15.2.2.2.2.2.1, IntKind.i64.wrap (s8.2.2.2.2.2.2 + 1))) fuel (s8.1, s8.2.1, s8.2.2.1, s8.2.2.2.1, s8.2.2.2.2.1, s8.2.2.2.2.2.1, 0)
    else
     some (⟨s8.2.1, s8.2.2.1, s8.2.2.2.1, s8.2.2.2.2.1, s8.2.2.2.2.2.1⟩ : XCategory)) fuel (([] : List Int), 0, ([] : List Int), ([] : List Int), ([] : List Int), ([] : List (List Int)), 0)) fuel (([] : List Int), 0)
def M.spec_LeastForm (a0 : XCategory) : Option (XCategory × Int) :=
 (M.spec_CountNumberings a0).bind fun v1 =>
 if v1.2 != 0 then
  some ((⟨0, [], [], [], []⟩ : XCategory), v1.2)
 else
  (M.spec_l10Least a0).bind fun v3 =>
  some (v3, 0)
end Go.Gx
namespace Go.Gx
def M.cmp_isNaN_int64 (a0 : Int) : Option Bool :=
 some (a0 != a0)
def M.cmp_Compare_int64 (a0 : Int) (a1 : Int) : Option Int :=
 (M.cmp_isNaN_int64 a0).bind fun v1 =>
 (M.cmp_isNaN_int64 a1).bind fun v2 =>
 if v1 then
  if v2 then
   some 0
  else
   some (-1)
 else
  if v2 then
   some 1
  else
   if decide (a0 < a1) then
    some (-1)
   else
    if decide (a0 > a1) then
     some 1
    else
     some 0
def M.slices_Compare_int64_int64 (a0 : List Int) (a1 : List Int) : Option Int :=
 iter (fun (s1 : Int) next2 =>
  if decide (s1 < (a0.length : Int)) then
   (idx a0 s1).bind fun y6 =>
   if decide (s1 ≥ (a1.length : Int)) then
    some 1
   else
    (idx a1 s1).bind fun y8 =>
    (M.cmp_Compare_int64 y6 y8).bind fun v9 =>
    if v9 != 0 then
     some v9
    else
     next2 (IntKind.i64.wrap (s1 + 1))
  else
   if decide ((a0.length : Int) < (a1.length : Int)) then
    some (-1)
   else
    some 0) fuel 0
def M.impl_lessSizes (a0 : Nat → Int) (a1 : Nat → Int) : Option Bool :=
 iter (fun (s1 : Int) next2 =>
  if decide (s1 < 8) then
   chk ((0 : Int) ≤ s1 ∧ s1 < 8) (
    (M.slices_Compare_int64_int64 (arL 0 8 fun q => a0 (0 + s1.toNat * 8 + q)) (arL 0 8 fun q => a1 (0 + s1.toNat * 8 + q))).bind fun v7 =>
    if v7 != 0 then
     some (decide (v7 < 0))
    else
     next2 (IntKind.i64.wrap (s1 + 1)))
  else
   some false) fuel 0
def M.iC_leastSizes_1 (xl : List Int) (xh : Nat → Int) (xo : List (List Int)) (xb : Nat → Int) : Option ((List (List Int)) × (Nat → Int)) :=
 iter (fun (s1 : (Nat → Int) × Int) next2 =>
  if decide (s1.2 < (xl.length : Int)) then
   (idx xl s1.2).bind fun y6 =>
   iter (fun (s7 : (Nat → Int) × Int) next8 =>
    if decide (s7.2 < (xl.length : Int)) then
     (idx xl s7.2).bind fun y12 =>
     chk ((0 : Int) ≤ y6 ∧ y6 < 8) (
      chk ((0 : Int) ≤ y12 ∧ y12 < 8) (
       chk ((0 : Int) ≤ s1.2 ∧ s1.2 < 8) (
        chk ((0 : Int) ≤ s7.2 ∧ s7.2 < 8) (
         next8 (upN s7.1 (0 + s1.2.toNat * 8 + s7.2.toNat * 1) (xh (0 + y6.toNat * 8 + y12.toNat * 1)), IntKind.i64.wrap (s7.2 + 1))))))
    else
     next2 (s7.1, IntKind.i64.wrap (s1.2 + 1))) fuel (s1.1, 0)
  else
   joinM (fun (_ : Unit) =>
    if (xo.length : Int) == 0 then
     (M.impl_clone xl).bind fun v21 =>
     some (([v21] : List (List Int)), s1.1)
    else
     (M.impl_lessSizes s1.1 xb).bind fun v22 =>
     if v22 then
      (M.impl_clone xl).bind fun v24 =>
      some (([v24] : List (List Int)), s1.1)
     else
      some (xo, xb)) fun k18 =>
   if decide ((xo.length : Int) > 0) then
    if arEq s1.1 xb 0 64 == true then
     (M.impl_clone xl).bind fun v27 =>
     chk (xo.length + 1 ≤ lim) (
      some (xo ++ [v27], xb))
    else
     k18 ()
   else
    k18 ()) fuel (fun _ => (0 : Int), 0)
def M.impl_permutations_1_A_n : Nat → (Nat → Int) → Int → List Int → List (List Int) → (Nat → Int) → Option ((List Int) × (List (List Int)) × (Nat → Int))
 | 0, _, _, _, _, _ => none
 | k + 1, xh, xk, xl, xo, xb =>
  if decide (xk ≥ (xl.length : Int)) then
   (M.iC_leastSizes_1 xl xh xo xb).bind fun v2 =>
   some (xl, v2.1, v2.2)
  else
   iter (fun (s3 : (Nat → Int) × (List Int) × (List (List Int)) × Int) next4 =>
    if decide (s3.2.2.2 < (s3.2.1.length : Int)) then
     (idx s3.2.1 s3.2.2.2).bind fun y8 =>
     (idx s3.2.1 xk).bind fun y9 =>
     (M.impl_permutations_1_A_n k xh (IntKind.i64.wrap (xk + 1)) ((s3.2.1.set xk.toNat y8).set s3.2.2.2.toNat y9) s3.2.2.1 s3.1).bind fun v10 =>
     (idx v10.1 s3.2.2.2).bind fun y11 =>
     (idx v10.1 xk).bind fun y12 =>
     next4 (v10.2.2, (v10.1.set xk.toNat y11).set s3.2.2.2.toNat y12, v10.2.1, IntKind.i64.wrap (s3.2.2.2 + 1))
    else
     some (s3.2.1, s3.2.2.1, s3.1)) fuel (xb, xl, xo, xk)
def M.impl_permutations_1_A (xh : Nat → Int) (xk : Int) (xl : List Int) (xo : List (List Int)) (xb : Nat → Int) : Option ((List Int) × (List (List Int)) × (Nat → Int)) := M.impl_permutations_1_A_n fuel xh xk xl xo xb
def M.impl_permutations_A (xh : Nat → Int) (xl : List Int) (xo : List (List Int)) (xb : Nat → Int) : Option ((List (List Int)) × (Nat → Int)) :=
 (M.impl_permutations_1_A xh 0 xl xo xb).bind fun v1 =>
 some (v1.2.1, v1.2.2)
def M.iC_leastSizes (a0 : XCategory) : Option (List (List Int)) :=
 (M.iC_homSizes a0).bind fun v1 =>
 (M.impl_numbers a0.Objects).bind fun v2 =>
 (M.impl_permutations_A v1 v2 [] (fun _ => (0 : Int))).bind fun v3 =>
 some v3.1
end Go.Gx
namespace Go.Gx
def M.iC_renumber_1 (a0 : Int) (a1 : Int) (a2 : List Int) (a3 : XCategory) (a4 : List Int) : Option Int :=
 (idx a4 a0).bind fun y1 =>
 (idx a4 a1).bind fun y2 =>
 (M.iC_then a3 y1 y2).bind fun v3 =>
 (idx a2 v3).bind fun y4 =>
 some y4
def M.iC_renumber (a0 : XCategory) (a1 : List Int) (a2 : List Int) : Option XCategory :=
 (M.iC_arrows a0).bind fun v1 =>
 chk ((0 : Int) ≤ v1 ∧ v1 ≤ (lim : Int)) (
  chk ((0 : Int) ≤ a0.Objects ∧ a0.Objects ≤ (lim : Int)) (
   iter (fun (s4 : (List Int) × (List Int) × Int) next5 =>
    if decide (s4.2.2 < (a2.length : Int)) then
     (idx a2 s4.2.2).bind fun y9 =>
     (idx a0.From s4.2.2).bind fun y10 =>
     (idx a1 y10).bind fun y11 =>
     (idx s4.1 y9).bind fun _ =>
     (idx a0.To s4.2.2).bind fun y13 =>
     (idx a1 y13).bind fun y14 =>
     (idx s4.2.1 y9).bind fun _ =>
     next5 (s4.1.set y9.toNat y11, s4.2.1.set y9.toNat y14, IntKind.i64.wrap (s4.2.2 + 1))
    else
     iter (fun (s16 : (List Int) × Int) next17 =>
      if decide (s16.2 < (a0.Identity.length : Int)) then
       (idx a0.Identity s16.2).bind fun y21 =>
       (idx a1 s16.2).bind fun y22 =>
       (idx a2 y21).bind fun y23 =>
       (idx s16.1 y22).bind fun _ =>
       next17 (s16.1.set y22.toNat y23, IntKind.i64.wrap (s16.2 + 1))
      else
       (M.impl_backwards a2).bind fun v25 =>
       (M.iC_table (⟨a0.Objects, s4.1, s4.2.1, s16.1, []⟩ : XCategory) (fun (x0 : Int) (x1 : Int) => M.iC_renumber_1 x0 x1 a2 a0 v25)).bind fun v26 =>
       some v26) fuel ((List.replicate a0.Objects.toNat (0 : Int)), 0)) fuel ((List.replicate v1.toNat (0 : Int)), (List.replicate v1.toNat (0 : Int)), 0)))
def M.slices_CompareFunc_int64_int64_int64_int64 (a0 : List (List Int)) (a1 : List (List Int)) (a2 : (List Int) → (List Int) → Option Int) : Option Int :=
 iter (fun (s1 : Int) next2 =>
  if decide (s1 < (a0.length : Int)) then
   (idx a0 s1).bind fun y6 =>
   if decide (s1 ≥ (a1.length : Int)) then
    some 1
   else
    (idx a1 s1).bind fun y8 =>
    (a2 y6 y8).bind fun v9 =>
    if v9 != 0 then
     some v9
    else
     next2 (IntKind.i64.wrap (s1 + 1))
  else
   if decide ((a0.length : Int) < (a1.length : Int)) then
    some (-1)
   else
    some 0) fuel 0
def M.iC_leastForm_1 (xd : XCategory) (xb : Option XCategory) : Option (Option XCategory) :=
 if xb.isNone then
  some (some xd)
 else
  (M.slices_CompareFunc_int64_int64_int64_int64 xd.Composites ((xb.getD (⟨0, [], [], [], []⟩ : XCategory)).Composites) (fun (x0 : List Int) (x1 : List Int) => M.impl_compare x0 x1)).bind fun v2 =>
  if decide (v2 < 0) then
   some (some xd)
  else
   some (some (xb.getD (⟨0, [], [], [], []⟩ : XCategory)))
def M.iC_forms_1_1 (xr : Int → List Int → Option XCategory → Option (Option XCategory)) (xi : Int) (xa : List Int) (xl : List Int) (xb : Option XCategory) : Option (Option XCategory) :=
 (M.impl_clone xa).bind fun v1 =>
 chk (v1.length + xl.length ≤ lim) (
  (xr (IntKind.i64.wrap (xi + 1)) (v1 ++ xl) xb).bind fun v3 =>
  some v3)
def M.impl_permutations_1_B_n : Nat → (List Int → Option XCategory → Option (Option XCategory)) → Int → List Int → Option XCategory → Option ((List Int) × (Option XCategory))
 | 0, _, _, _, _ => none
 | k + 1, xv, xk, xl, xb =>
  if decide (xk ≥ (xl.length : Int)) then
   (xv xl xb).bind fun v2 =>
   some (xl, v2)
  else
   iter (fun (s3 : (List Int) × (Option XCategory) × Int) next4 =>
    if decide (s3.2.2 < (s3.1.length : Int)) then
     (idx s3.1 s3.2.2).bind fun y8 =>
     (idx s3.1 xk).bind fun y9 =>
     (M.impl_permutations_1_B_n k xv (IntKind.i64.wrap (xk + 1)) ((s3.1.set xk.toNat y8).set s3.2.2.toNat y9) s3.2.1).bind fun v10 =>
     (idx v10.1 s3.2.2).bind fun y11 =>
     (idx v10.1 xk).bind fun y12 =>
     next4 ((v10.1.set xk.toNat y11).set s3.2.2.toNat y12, v10.2, IntKind.i64.wrap (s3.2.2 + 1))
    else
     some (s3.1, s3.2.1)) fuel (xl, xb, xk)
def M.impl_permutations_1_B (xv : List Int → Option XCategory → Option (Option XCategory)) (xk : Int) (xl : List Int) (xb : Option XCategory) : Option ((List Int) × (Option XCategory)) := M.impl_permutations_1_B_n fuel xv xk xl xb
def M.impl_permutations_B (xv : List Int → Option XCategory → Option (Option XCategory)) (xl : List Int) (xb : Option XCategory) : Option (Option XCategory) :=
 (M.impl_permutations_1_B xv 0 xl xb).bind fun v1 =>
 some v1.2
def M.iC_forms_1_own_n : Nat → List (List Int) → XCategory → List Int → Int → List Int → Option XCategory → Option (Option XCategory)
 | 0, _, _, _, _, _, _ => none
 | k + 1, xg, xc, xp, xi, xa, xb =>
  if xi == (xg.length : Int) then
   (M.impl_backwards xa).bind fun v2 =>
   (M.iC_renumber xc xp v2).bind fun v3 =>
   (M.iC_leastForm_1 v3 xb).bind fun v4 =>
   some v4
  else
   (idx xg xi).bind fun y5 =>
   (M.impl_clone y5).bind fun v6 =>
   (M.impl_permutations_B (fun xl xb => M.iC_forms_1_1 (fun xi xa xb => M.iC_forms_1_own_n k xg xc xp xi xa xb) xi xa xl xb) v6 xb).bind fun v7 =>
   some v7
def M.iC_forms_1_own (xg : List (List Int)) (xc : XCategory) (xp : List Int) (xi : Int) (xa : List Int) (xb : Option XCategory) : Option (Option XCategory) := M.iC_forms_1_own_n fuel xg xc xp xi xa xb
def M.iC_forms_1_nil (xg : List (List Int)) (xc : XCategory) (xp : List Int) (xi : Int) (xb : Option XCategory) : Option (Option XCategory) :=
 if xi == (xg.length : Int) then
  (M.impl_backwards ([] : List Int)).bind fun v2 =>
  (M.iC_renumber xc xp v2).bind fun v3 =>
  (M.iC_leastForm_1 v3 xb).bind fun v4 =>
  some v4
 else
  (idx xg xi).bind fun y5 =>
  (M.impl_clone y5).bind fun v6 =>
  (M.impl_permutations_B (fun xl xb => M.iC_forms_1_1 (fun xi xa xb => M.iC_forms_1_own xg xc xp xi xa xb) xi ([] : List Int) xl xb) v6 xb).bind fun v7 =>
  some v7
def M.iC_forms (xc : XCategory) (xp : List Int) (xb : Option XCategory) : Option (Option XCategory) :=
 iter (fun (s1 : (List (List Int)) × Int) next2 =>
  if decide (s1.2 < (xp.length : Int)) then
   (idx xp s1.2).bind fun y6 =>
   iter (fun (s7 : (List (List Int)) × Int) next8 =>
    if decide (s7.2 < (xp.length : Int)) then
     (idx xp s7.2).bind fun y12 =>
     (M.iC_hom xc y6 y12).bind fun v13 =>
     iter (fun (s14 : (List Int) × Int) next15 =>
      if decide (s14.2 < (v13.length : Int)) then
       (idx v13 s14.2).bind fun y19 =>
       (M.iC_isIdentity xc y19).bind fun v20 =>
       if v20 then
        next15 (s14.1, IntKind.i64.wrap (s14.2 + 1))
       else
        chk (s14.1.length + (([y19] : List Int).length) ≤ lim) (
         next15 (s14.1 ++ ([y19] : List Int), IntKind.i64.wrap (s14.2 + 1)))
      else
       if y6 == y12 then
        (idx xc.Identity y6).bind fun y24 =>
        chk (s7.1.length + 1 ≤ lim) (
         chk ((s7.1 ++ [[y24]]).length + 1 ≤ lim) (
          next8 ((s7.1 ++ [[y24]]) ++ [s14.1], IntKind.i64.wrap (s7.2 + 1))))
       else
        chk (s7.1.length + 1 ≤ lim) (
         next8 (s7.1 ++ [s14.1], IntKind.i64.wrap (s7.2 + 1)))) fuel (([] : List Int), 0)
    else
     next2 (s7.1, IntKind.i64.wrap (s1.2 + 1))) fuel (s1.1, 0)
  else
   (M.impl_backwards xp).bind fun v28 =>
   (M.iC_forms_1_nil s1.1 xc v28 0 xb).bind fun v29 =>
   some v29) fuel (([] : List (List Int)), 0)
end Go.Gx
namespace Go.Gx
def M.iC_leastForm (a0 : XCategory) : Option XCategory :=
 (M.iC_leastSizes a0).bind fun v1 =>
 iter (fun (s2 : (Option XCategory) × Int) next3 =>
  if decide (s2.2 < (v1.length : Int)) then
   (idx v1 s2.2).bind fun y7 =>
   (M.iC_forms a0 y7 s2.1).bind fun v8 =>
   next3 (v8, IntKind.i64.wrap (s2.2 + 1))
  else
   if s2.1.isNone then
    none
   else
    (M.iC_copy (s2.1.getD (⟨0, [], [], [], []⟩ : XCategory))).bind fun v10 =>
    some v10) fuel (none, 0)
def M.impl_LeastForm (a0 : XCategory) : Option (XCategory × Int) :=
 (M.iC_isCategory a0).bind fun v1 =>
 if v1 then
  (M.iC_numberings a0).bind fun v3 =>
  if decide (v3 > 5000) then
   some ((⟨0, [], [], [], []⟩ : XCategory), 3)
  else
   (M.iC_leastForm a0).bind fun v5 =>
   some (v5, 0)
 else
  some ((⟨0, [], [], [], []⟩ : XCategory), 1)
def M.laws_FnExactLeastForm (a0 : XCategory) : Option Bool :=
 (M.laws_szCategory a0 1048576).bind fun v1 =>
 if decide (v1 < 0) then
  some true
 else
  (M.laws_toCategory a0).bind fun v3 =>
  (M.spec_LeastForm v3).bind fun v4 =>
  (M.impl_LeastForm v3).bind fun v5 =>
  (M.laws_eqCategory v5.1 v4.1).bind fun v6 =>
  if v6 then
   if v5.2 != v4.2 then
    some false
   else
    (M.laws_eqCategory v3 v3).bind fun v9 =>
    if v9 then
     (M.laws_markCategory v3 1).bind fun v11 =>
     if decide (v11.1 < 0) then
      some false
     else
      (M.laws_markCategory v5.1 1).bind fun v13 =>
      (M.laws_heldCategory v13.2 1).bind fun v14 =>
      if decide (v14 < 0) then
       some false
      else
       if v14 != v13.1 then
        some false
       else
        some true
    else
     some false
  else
   some false
end Go.Gx
namespace Go.Gx
structure XProfunctor where
  Source : XCategory
  Target : XCategory
  Sizes : List (List Int)
  Before : List (List (List Int))
  Behind : List (List (List Int))
def R.XProfunctor (x : XProfunctor) : Prop := (R.XCategory x.Source) ∧ (R.XCategory x.Target) ∧ (AllL (AllL I64) x.Sizes) ∧ (AllL (AllL (AllL I64)) x.Before) ∧ (AllL (AllL (AllL I64)) x.Behind)
end Go.Gx
