/- Models of the functions. Printed by wip/gen. -/
import Derived.Test.YtjmjhhhglbeacaaGxNuM
import Derived.Test.YtjmjhhhglbeacaaGxE1
namespace Go.Gx

structure XSetFunctor where
  Shape : XCategory
  Sizes : List Int
  Actions : List (List Int)
def eXSetFunctor : Enc XSetFunctor := (eA (eC eXCategory XSetFunctor.Shape) (eA (eC (eS eI) XSetFunctor.Sizes) (eC (eS (eS eI)) XSetFunctor.Actions)))
theorem eXSetFunctor_ok : EncOk eXSetFunctor := (eA_ok (eC_ok eXCategory_ok _) (eA_ok (eC_ok (eS_ok eI_ok) _) (eC_ok (eS_ok (eS_ok eI_ok)) _)))
def R.XSetFunctor (x : XSetFunctor) : Prop := (R.XCategory x.Shape) ∧ (AllL I64 x.Sizes) ∧ (AllL (AllL I64) x.Actions)
theorem eXSetFunctor_nb : EncNb eXSetFunctor := (eA_nb (eC_nb eXCategory_nb _) (eA_nb (eC_nb (eS_nb eI_nb) _) (eC_nb (eS_nb (eS_nb eI_nb)) _)))

structure XSetMap where
  Source : XSetFunctor
  Target : XSetFunctor
  Parts : List (List Int)
def eXSetMap : Enc XSetMap := (eA (eC eXSetFunctor XSetMap.Source) (eA (eC eXSetFunctor XSetMap.Target) (eC (eS (eS eI)) XSetMap.Parts)))
theorem eXSetMap_ok : EncOk eXSetMap := (eA_ok (eC_ok eXSetFunctor_ok _) (eA_ok (eC_ok eXSetFunctor_ok _) (eC_ok (eS_ok (eS_ok eI_ok)) _)))
def R.XSetMap (x : XSetMap) : Prop := (R.XSetFunctor x.Source) ∧ (R.XSetFunctor x.Target) ∧ (AllL (AllL I64) x.Parts)
theorem eXSetMap_nb : EncNb eXSetMap := (eA_nb (eC_nb eXSetFunctor_nb _) (eA_nb (eC_nb eXSetFunctor_nb _) (eC_nb (eS_nb (eS_nb eI_nb)) _)))

def M.laws_szSetFunctor (a0 : XSetFunctor) (a1 : Int) : Option Int :=
  (M.laws_szCategory a0.Shape a1).bind fun v1 =>
  if decide (v1 < 0) then
    some (-1)
  else
    (M.laws_szInt64S a0.Sizes v1).bind fun v3 =>
    if decide (v3 < 0) then
      some (-1)
    else
      (M.laws_szInt64SS a0.Actions v3).bind fun v5 =>
      if decide (v5 < 0) then
        some (-1)
      else
        some v5

def M.spec_l19Shape (a0 : XSetFunctor) : Option Bool :=
  (M.spec_l02Is a0.Shape).bind fun v1 =>
  if v1 then
    if (a0.Sizes.length : Int) != a0.Shape.Objects then
      some false
    else
      if (a0.Actions.length : Int) != (a0.Shape.From.length : Int) then
        some false
      else
        iter (fun (s5 : Int) next6 =>
          if decide (s5 < (a0.Sizes.length : Int)) then
            (idx a0.Sizes s5).bind fun y10 =>
            (M.spec_l01In y10 0 16).bind fun v11 =>
            if v11 then
              next6 (IntKind.i64.wrap (s5 + 1))
            else
              some false
          else
            iter (fun (s13 : Int) next14 =>
              if decide (s13 < (a0.Actions.length : Int)) then
                (idx a0.Actions s13).bind fun y18 =>
                (idx a0.Shape.From s13).bind fun y19 =>
                (idx a0.Sizes y19).bind fun y20 =>
                if (y18.length : Int) != y20 then
                  some false
                else
                  (idx a0.Shape.To s13).bind fun y22 =>
                  (idx a0.Sizes y22).bind fun y23 =>
                  (M.spec_l01Map y23 y18).bind fun v24 =>
                  if v24 then
                    next14 (IntKind.i64.wrap (s13 + 1))
                  else
                    some false
              else
                some true) fuel 0) fuel 0
  else
    some false

def M.spec_l19Fault (a0 : XSetFunctor) : Option (Int × Int × Int × Int) :=
  iter (fun (s1 : Int) next2 =>
    if decide (s1 < a0.Shape.Objects) then
      iter (fun (s6 : Int) next7 =>
        (idx a0.Sizes s1).bind fun y10 =>
        if decide (s6 < y10) then
          (idx a0.Shape.Identity s1).bind fun y12 =>
          (idx a0.Actions y12).bind fun y13 =>
          (idx y13 s6).bind fun y14 =>
          if y14 != s6 then
            some (1, s1, s6, 0)
          else
            next7 (IntKind.i64.wrap (s6 + 1))
        else
          next2 (IntKind.i64.wrap (s1 + 1))) fuel 0
    else
      iter (fun (s16 : Int) next17 =>
        if decide (s16 < (a0.Shape.From.length : Int)) then
          iter (fun (s21 : Int) next22 =>
            if decide (s21 < (a0.Shape.From.length : Int)) then
              (idx a0.Shape.To s16).bind fun y26 =>
              (idx a0.Shape.From s21).bind fun y27 =>
              if y26 != y27 then
                next22 (IntKind.i64.wrap (s21 + 1))
              else
                iter (fun (s29 : Int) next30 =>
                  (idx a0.Shape.From s16).bind fun y33 =>
                  (idx a0.Sizes y33).bind fun y34 =>
                  if decide (s29 < y34) then
                    (idx a0.Shape.Composites s16).bind fun y36 =>
                    (idx y36 s21).bind fun y37 =>
                    (idx a0.Actions y37).bind fun y38 =>
                    (idx y38 s29).bind fun y39 =>
                    (idx a0.Actions s21).bind fun y40 =>
                    (idx a0.Actions s16).bind fun y41 =>
                    (idx y41 s29).bind fun y42 =>
                    (idx y40 y42).bind fun y43 =>
                    if y39 != y43 then
                      some (2, s16, s21, s29)
                    else
                      next30 (IntKind.i64.wrap (s29 + 1))
                  else
                    next22 (IntKind.i64.wrap (s21 + 1))) fuel 0
            else
              next17 (IntKind.i64.wrap (s16 + 1))) fuel 0
        else
          some (0, 0, 0, 0)) fuel 0) fuel 0

def M.spec_l19Is (a0 : XSetFunctor) : Option Bool :=
  (M.spec_l19Shape a0).bind fun v1 =>
  if v1 then
    (M.spec_l19Fault a0).bind fun v3 =>
    some (v3.1 == 0)
  else
    some false

def M.spec_l19Own (a0 : XSetFunctor) : Option XSetFunctor :=
  (M.spec_l02Own a0.Shape).bind fun v1 =>
  (M.spec_l01Own a0.Sizes).bind fun v2 =>
  (M.spec_l01Own2 a0.Actions).bind fun v3 =>
  some (⟨v1, v2, v3⟩ : XSetFunctor)

def M.spec_l19Make (a0 : XSetFunctor) (a1 : XSetFunctor) (a2 : List (List Int)) : Option XSetMap :=
  (M.spec_l19Own a0).bind fun v1 =>
  (M.spec_l19Own a1).bind fun v2 =>
  (M.spec_l01Own2 a2).bind fun v3 =>
  some (⟨v1, v2, v3⟩ : XSetMap)

def M.spec_l19Self (a0 : XSetFunctor) : Option (List (List Int)) :=
  iter (fun (s1 : (List (List Int)) × Int) next2 =>
    if decide (s1.2 < (a0.Sizes.length : Int)) then
      iter (fun (s6 : (List Int) × Int) next7 =>
        (idx a0.Sizes s1.2).bind fun y10 =>
        if decide (s6.2 < y10) then
          chk (s6.1.length + (([s6.2] : List Int).length) ≤ lim) (
            next7 (s6.1 ++ ([s6.2] : List Int), IntKind.i64.wrap (s6.2 + 1)))
        else
          chk (s1.1.length + 1 ≤ lim) (
            next2 (s1.1 ++ [s6.1], IntKind.i64.wrap (s1.2 + 1)))) fuel (([] : List Int), 0)
    else
      some s1.1) fuel (([] : List (List Int)), 0)

def M.spec_IdentitySetMap (a0 : XSetFunctor) : Option (XSetMap × Int) :=
  (M.spec_l19Is a0).bind fun v1 =>
  if v1 then
    (M.spec_l19Self a0).bind fun v3 =>
    (M.spec_l19Make a0 a0 v3).bind fun v4 =>
    some (v4, 0)
  else
    some ((⟨(⟨(⟨0, [], [], [], []⟩ : XCategory), [], []⟩ : XSetFunctor), (⟨(⟨0, [], [], [], []⟩ : XCategory), [], []⟩ : XSetFunctor), []⟩ : XSetMap), 1)

def M.laws_toSetFunctor (a0 : XSetFunctor) : Option XSetFunctor :=
  (M.laws_toCategory a0.Shape).bind fun v1 =>
  (M.laws_toInt64S a0.Sizes).bind fun v2 =>
  (M.laws_toInt64SS a0.Actions).bind fun v3 =>
  some (⟨v1, v2, v3⟩ : XSetFunctor)

def M.impl_isMapOf (a0 : List Int) (a1 : Int) (a2 : Int) : Option Bool :=
  if (a0.length : Int) == a1 then
    (M.impl_within a0 a2).bind fun v2 =>
    some v2
  else
    some false

def M.impl_SetFunctor_isShape (a0 : XSetFunctor) : Option Bool :=
  (M.impl_Category_isCategory a0.Shape).bind fun v1 =>
  if v1 then
    if (a0.Sizes.length : Int) != a0.Shape.Objects then
      some false
    else
      (M.impl_within a0.Sizes 17).bind fun v4 =>
      if v4 then
        (M.impl_Category_arrows a0.Shape).bind fun v6 =>
        if (a0.Actions.length : Int) != v6 then
          some false
        else
          iter (fun (s8 : Int) next9 =>
            if decide (s8 < (a0.Actions.length : Int)) then
              (idx a0.Actions s8).bind fun y13 =>
              (idx a0.Shape.From s8).bind fun y14 =>
              (idx a0.Sizes y14).bind fun y15 =>
              (idx a0.Shape.To s8).bind fun y16 =>
              (idx a0.Sizes y16).bind fun y17 =>
              (M.impl_isMapOf y13 y15 y17).bind fun v18 =>
              if v18 then
                next9 (IntKind.i64.wrap (s8 + 1))
              else
                some false
            else
              some true) fuel 0
      else
        some false
  else
    some false

def M.impl_SetFunctor_fault (a0 : XSetFunctor) : Option (Int × Int × Int × Int) :=
  iter (fun (s1 : Int) next2 =>
    if decide (s1 < (a0.Shape.Identity.length : Int)) then
      (idx a0.Shape.Identity s1).bind fun y6 =>
      (idx a0.Actions y6).bind fun y7 =>
      iter (fun (s8 : Int) next9 =>
        if decide (s8 < (y7.length : Int)) then
          (idx y7 s8).bind fun y13 =>
          if y13 != s8 then
            some (1, s1, s8, 0)
          else
            next9 (IntKind.i64.wrap (s8 + 1))
        else
          next2 (IntKind.i64.wrap (s1 + 1))) fuel 0
    else
      iter (fun (s15 : Int) next16 =>
        if decide (s15 < (a0.Shape.Composites.length : Int)) then
          (idx a0.Shape.Composites s15).bind fun y20 =>
          iter (fun (s21 : Int) next22 =>
            if decide (s21 < (y20.length : Int)) then
              (idx y20 s21).bind fun y26 =>
              if decide (y26 < 0) then
                next22 (IntKind.i64.wrap (s21 + 1))
              else
                (idx a0.Actions s15).bind fun y28 =>
                iter (fun (s29 : Int) next30 =>
                  if decide (s29 < (y28.length : Int)) then
                    (idx y28 s29).bind fun y34 =>
                    (idx a0.Actions y26).bind fun y35 =>
                    (idx y35 s29).bind fun y36 =>
                    (idx a0.Actions s21).bind fun y37 =>
                    (idx y37 y34).bind fun y38 =>
                    if y36 != y38 then
                      some (2, s15, s21, s29)
                    else
                      next30 (IntKind.i64.wrap (s29 + 1))
                  else
                    next22 (IntKind.i64.wrap (s21 + 1))) fuel 0
            else
              next16 (IntKind.i64.wrap (s15 + 1))) fuel 0
        else
          some (0, 0, 0, 0)) fuel 0) fuel 0

def M.impl_SetFunctor_isSetFunctor (a0 : XSetFunctor) : Option Bool :=
  (M.impl_SetFunctor_isShape a0).bind fun v1 =>
  if v1 then
    (M.impl_SetFunctor_fault a0).bind fun v3 =>
    some (v3.1 == 0)
  else
    some false

def M.impl_SetFunctor_copy (a0 : XSetFunctor) : Option XSetFunctor :=
  (M.impl_Category_copy a0.Shape).bind fun v1 =>
  (M.impl_clone a0.Sizes).bind fun v2 =>
  (M.impl_clones a0.Actions).bind fun v3 =>
  some (⟨v1, v2, v3⟩ : XSetFunctor)

def M.impl_setMap (a0 : XSetFunctor) (a1 : XSetFunctor) (a2 : List (List Int)) : Option XSetMap :=
  (M.impl_SetFunctor_copy a0).bind fun v1 =>
  (M.impl_SetFunctor_copy a1).bind fun v2 =>
  (M.impl_clones a2).bind fun v3 =>
  some (⟨v1, v2, v3⟩ : XSetMap)

def M.impl_IdentitySetMap (a0 : XSetFunctor) : Option (XSetMap × Int) :=
  (M.impl_SetFunctor_isSetFunctor a0).bind fun v1 =>
  if v1 then
    iter (fun (s3 : (List (List Int)) × Int) next4 =>
      if decide (s3.2 < (a0.Sizes.length : Int)) then
        (idx a0.Sizes s3.2).bind fun y8 =>
        (M.impl_numbers y8).bind fun v9 =>
        chk (s3.1.length + 1 ≤ lim) (
          next4 (s3.1 ++ [v9], IntKind.i64.wrap (s3.2 + 1)))
      else
        (M.impl_setMap a0 a0 s3.1).bind fun v11 =>
        some (v11, 0)) fuel (([] : List (List Int)), 0)
  else
    some ((⟨(⟨(⟨0, [], [], [], []⟩ : XCategory), [], []⟩ : XSetFunctor), (⟨(⟨0, [], [], [], []⟩ : XCategory), [], []⟩ : XSetFunctor), []⟩ : XSetMap), 1)

def M.laws_eqSetFunctor (a0 : XSetFunctor) (a1 : XSetFunctor) : Option Bool :=
  (M.laws_eqCategory a0.Shape a1.Shape).bind fun v1 =>
  if v1 then
    (M.laws_eqInt64S a0.Sizes a1.Sizes).bind fun v3 =>
    if v3 then
      (M.laws_eqInt64SS a0.Actions a1.Actions).bind fun v5 =>
      if v5 then
        some true
      else
        some false
    else
      some false
  else
    some false

def M.laws_eqSetMap (a0 : XSetMap) (a1 : XSetMap) : Option Bool :=
  (M.laws_eqSetFunctor a0.Source a1.Source).bind fun v1 =>
  if v1 then
    (M.laws_eqSetFunctor a0.Target a1.Target).bind fun v3 =>
    if v3 then
      (M.laws_eqInt64SS a0.Parts a1.Parts).bind fun v5 =>
      if v5 then
        some true
      else
        some false
    else
      some false
  else
    some false

def M.laws_markSetFunctor (a0 : XSetFunctor) (a1 : Int) : Option (Int × XSetFunctor) :=
  (M.laws_markCategory a0.Shape a1).bind fun v1 =>
  (M.laws_markInt64S a0.Sizes v1.1).bind fun v2 =>
  (M.laws_markInt64SS a0.Actions v2.1).bind fun v3 =>
  some (v3.1, (⟨(⟨a0.Shape.Objects, v1.2.From, v1.2.To, v1.2.Identity, v1.2.Composites⟩ : XCategory), v2.2, v3.2⟩ : XSetFunctor))

theorem M.len_markSetFunctor {a0 : XSetFunctor} {a1 : Int} {r : Int × XSetFunctor} (h : M.laws_markSetFunctor a0 a1 = some r) : a0.Shape.Objects = r.2.Shape.Objects ∧ a0.Shape.From.length = r.2.Shape.From.length ∧ a0.Shape.To.length = r.2.Shape.To.length ∧ a0.Shape.Identity.length = r.2.Shape.Identity.length ∧ a0.Shape.Composites.length = r.2.Shape.Composites.length ∧ a0.Sizes.length = r.2.Sizes.length ∧ a0.Actions.length = r.2.Actions.length := by
  unfold M.laws_markSetFunctor at h
  obtain ⟨v0, h0, h⟩ := bind_some' h
  have l0 := M.len_markCategory h0
  obtain ⟨v1, h1, h⟩ := bind_some' h
  have l1 := M.len_markInt64S h1
  obtain ⟨v2, h2, h⟩ := bind_some' h
  have l2 := M.len_markInt64SS h2
  obtain rfl := Option.some.inj h
  refine ⟨?_, ?_, ?_, ?_, ?_, ?_, ?_⟩ <;> dsimp only <;> omega
theorem rsC_eXSetFunctor (q : Nat) {x y : XSetFunctor} (h : x.Shape.Objects = y.Shape.Objects ∧ x.Shape.From.length = y.Shape.From.length ∧ x.Shape.To.length = y.Shape.To.length ∧ x.Shape.Identity.length = y.Shape.Identity.length ∧ x.Shape.Composites.length = y.Shape.Composites.length ∧ x.Sizes.length = y.Sizes.length ∧ x.Actions.length = y.Actions.length) : rsC q (eXSetFunctor.o x) = rsC q (eXSetFunctor.o y) := by
  obtain ⟨h0, h1, h2, h3, h4, h5, h6⟩ := h
  have e : ∀ z : XSetFunctor, rsC q (eXSetFunctor.o z) = [iv z.Shape.Objects, .rs (q + 1) 0 z.Shape.From.length, .rs (q + 1 + 1) 0 z.Shape.To.length, .rs (q + 1 + 1 + 1) 0 z.Shape.Identity.length, .rs (q + 1 + 1 + 1 + 1) 0 z.Shape.Composites.length, .rs (q + 1 + 1 + 1 + 1 + 1) 0 z.Sizes.length, .rs (q + 1 + 1 + 1 + 1 + 1 + 1) 0 z.Actions.length] := fun _ => rfl
  rw [e, e, h0, h1, h2, h3, h4, h5, h6]

def M.laws_markSetMap (a0 : XSetMap) (a1 : Int) : Option (Int × XSetMap) :=
  (M.laws_markSetFunctor a0.Source a1).bind fun v1 =>
  (M.laws_markSetFunctor a0.Target v1.1).bind fun v2 =>
  (M.laws_markInt64SS a0.Parts v2.1).bind fun v3 =>
  some (v3.1, (⟨(⟨(⟨a0.Source.Shape.Objects, v1.2.Shape.From, v1.2.Shape.To, v1.2.Shape.Identity, v1.2.Shape.Composites⟩ : XCategory), v1.2.Sizes, v1.2.Actions⟩ : XSetFunctor), (⟨(⟨a0.Target.Shape.Objects, v2.2.Shape.From, v2.2.Shape.To, v2.2.Shape.Identity, v2.2.Shape.Composites⟩ : XCategory), v2.2.Sizes, v2.2.Actions⟩ : XSetFunctor), v3.2⟩ : XSetMap))

theorem M.len_markSetMap {a0 : XSetMap} {a1 : Int} {r : Int × XSetMap} (h : M.laws_markSetMap a0 a1 = some r) : a0.Source.Shape.Objects = r.2.Source.Shape.Objects ∧ a0.Source.Shape.From.length = r.2.Source.Shape.From.length ∧ a0.Source.Shape.To.length = r.2.Source.Shape.To.length ∧ a0.Source.Shape.Identity.length = r.2.Source.Shape.Identity.length ∧ a0.Source.Shape.Composites.length = r.2.Source.Shape.Composites.length ∧ a0.Source.Sizes.length = r.2.Source.Sizes.length ∧ a0.Source.Actions.length = r.2.Source.Actions.length ∧ a0.Target.Shape.Objects = r.2.Target.Shape.Objects ∧ a0.Target.Shape.From.length = r.2.Target.Shape.From.length ∧ a0.Target.Shape.To.length = r.2.Target.Shape.To.length ∧ a0.Target.Shape.Identity.length = r.2.Target.Shape.Identity.length ∧ a0.Target.Shape.Composites.length = r.2.Target.Shape.Composites.length ∧ a0.Target.Sizes.length = r.2.Target.Sizes.length ∧ a0.Target.Actions.length = r.2.Target.Actions.length ∧ a0.Parts.length = r.2.Parts.length := by
  unfold M.laws_markSetMap at h
  obtain ⟨v0, h0, h⟩ := bind_some' h
  have l0 := M.len_markSetFunctor h0
  obtain ⟨v1, h1, h⟩ := bind_some' h
  have l1 := M.len_markSetFunctor h1
  obtain ⟨v2, h2, h⟩ := bind_some' h
  have l2 := M.len_markInt64SS h2
  obtain rfl := Option.some.inj h
  refine ⟨?_, ?_, ?_, ?_, ?_, ?_, ?_, ?_, ?_, ?_, ?_, ?_, ?_, ?_, ?_⟩ <;> dsimp only <;> omega
theorem rsC_eXSetMap (q : Nat) {x y : XSetMap} (h : x.Source.Shape.Objects = y.Source.Shape.Objects ∧ x.Source.Shape.From.length = y.Source.Shape.From.length ∧ x.Source.Shape.To.length = y.Source.Shape.To.length ∧ x.Source.Shape.Identity.length = y.Source.Shape.Identity.length ∧ x.Source.Shape.Composites.length = y.Source.Shape.Composites.length ∧ x.Source.Sizes.length = y.Source.Sizes.length ∧ x.Source.Actions.length = y.Source.Actions.length ∧ x.Target.Shape.Objects = y.Target.Shape.Objects ∧ x.Target.Shape.From.length = y.Target.Shape.From.length ∧ x.Target.Shape.To.length = y.Target.Shape.To.length ∧ x.Target.Shape.Identity.length = y.Target.Shape.Identity.length ∧ x.Target.Shape.Composites.length = y.Target.Shape.Composites.length ∧ x.Target.Sizes.length = y.Target.Sizes.length ∧ x.Target.Actions.length = y.Target.Actions.length ∧ x.Parts.length = y.Parts.length) : rsC q (eXSetMap.o x) = rsC q (eXSetMap.o y) := by
  obtain ⟨h0, h1, h2, h3, h4, h5, h6, h7, h8, h9, h10, h11, h12, h13, h14⟩ := h
  have e : ∀ z : XSetMap, rsC q (eXSetMap.o z) = [iv z.Source.Shape.Objects, .rs (q + 1) 0 z.Source.Shape.From.length, .rs (q + 1 + 1) 0 z.Source.Shape.To.length, .rs (q + 1 + 1 + 1) 0 z.Source.Shape.Identity.length, .rs (q + 1 + 1 + 1 + 1) 0 z.Source.Shape.Composites.length, .rs (q + 1 + 1 + 1 + 1 + 1) 0 z.Source.Sizes.length, .rs (q + 1 + 1 + 1 + 1 + 1 + 1) 0 z.Source.Actions.length, iv z.Target.Shape.Objects, .rs (q + 1 + 1 + 1 + 1 + 1 + 1 + 1 + 1) 0 z.Target.Shape.From.length, .rs (q + 1 + 1 + 1 + 1 + 1 + 1 + 1 + 1 + 1) 0 z.Target.Shape.To.length, .rs (q + 1 + 1 + 1 + 1 + 1 + 1 + 1 + 1 + 1 + 1) 0 z.Target.Shape.Identity.length, .rs (q + 1 + 1 + 1 + 1 + 1 + 1 + 1 + 1 + 1 + 1 + 1) 0 z.Target.Shape.Composites.length, .rs (q + 1 + 1 + 1 + 1 + 1 + 1 + 1 + 1 + 1 + 1 + 1 + 1) 0 z.Target.Sizes.length, .rs (q + 1 + 1 + 1 + 1 + 1 + 1 + 1 + 1 + 1 + 1 + 1 + 1 + 1) 0 z.Target.Actions.length, .rs (q + 1 + 1 + 1 + 1 + 1 + 1 + 1 + 1 + 1 + 1 + 1 + 1 + 1 + 1) 0 z.Parts.length] := fun _ => rfl
  rw [e, e, h0, h1, h2, h3, h4, h5, h6, h7, h8, h9, h10, h11, h12, h13, h14]

def M.laws_heldSetFunctor (a0 : XSetFunctor) (a1 : Int) : Option Int :=
  (M.laws_heldCategory a0.Shape a1).bind fun v1 =>
  if decide (v1 < 0) then
    some (-1)
  else
    (M.laws_heldInt64S a0.Sizes v1).bind fun v3 =>
    if decide (v3 < 0) then
      some (-1)
    else
      (M.laws_heldInt64SS a0.Actions v3).bind fun v5 =>
      if decide (v5 < 0) then
        some (-1)
      else
        some v5

def M.laws_heldSetMap (a0 : XSetMap) (a1 : Int) : Option Int :=
  (M.laws_heldSetFunctor a0.Source a1).bind fun v1 =>
  if decide (v1 < 0) then
    some (-1)
  else
    (M.laws_heldSetFunctor a0.Target v1).bind fun v3 =>
    if decide (v3 < 0) then
      some (-1)
    else
      (M.laws_heldInt64SS a0.Parts v3).bind fun v5 =>
      if decide (v5 < 0) then
        some (-1)
      else
        some v5

def M.laws_FnExactIdentitySetMap (a0 : XSetFunctor) : Option Bool :=
  (M.laws_szSetFunctor a0 1048576).bind fun v1 =>
  if decide (v1 < 0) then
    some true
  else
    (M.laws_toSetFunctor a0).bind fun v3 =>
    (M.spec_IdentitySetMap v3).bind fun v4 =>
    (M.impl_IdentitySetMap v3).bind fun v5 =>
    (M.laws_eqSetMap v5.1 v4.1).bind fun v6 =>
    if v6 then
      if v5.2 != v4.2 then
        some false
      else
        (M.laws_eqSetFunctor v3 v3).bind fun v9 =>
        if v9 then
          (M.laws_markSetFunctor v3 1).bind fun v11 =>
          if decide (v11.1 < 0) then
            some false
          else
            (M.laws_markSetMap v5.1 1).bind fun v13 =>
            (M.laws_heldSetMap v13.2 1).bind fun v14 =>
            if decide (v14 < 0) then
              some false
            else
              if v14 != v13.1 then
                some false
              else
                some true
        else
          some false
    else
      some false

end Go.Gx
