/- Models of the functions. Printed by wip/gen. -/
import Derived.Test.YtjmjhhhglbeacaaGxL8M
import Derived.Test.YtjmjhhhglbeacaaGxNuM
import Derived.Test.YtjmjhhhglbeacaaGxv51M
import Derived.Test.YtjmjhhhglbeacaaGxE1
namespace Go.Gx

structure XFamily where
  Base : XCategory
  Fibres : List XCategory
  Changes : List XFunctor
def eXFamily : Enc XFamily := (eA (eC eXCategory XFamily.Base) (eA (eC (eS eXCategory) XFamily.Fibres) (eC (eS eXFunctor) XFamily.Changes)))
theorem eXFamily_ok : EncOk eXFamily := (eA_ok (eC_ok eXCategory_ok _) (eA_ok (eC_ok (eS_ok eXCategory_ok) _) (eC_ok (eS_ok eXFunctor_ok) _)))
def R.XFamily (x : XFamily) : Prop := (R.XCategory x.Base) ∧ (AllL R.XCategory x.Fibres) ∧ (AllL R.XFunctor x.Changes)
theorem eXFamily_nb : EncNb eXFamily := (eA_nb (eC_nb eXCategory_nb _) (eA_nb (eC_nb (eS_nb eXCategory_nb) _) (eC_nb (eS_nb eXFunctor_nb) _)))

def M.laws_szCategoryS (a0 : List XCategory) (a1 : Int) : Option Int :=
  if decide ((IntKind.i64.wrap (a1 - (a0.length : Int))) < 0) then
    some (-1)
  else
    iter (fun (s2 : Int × Int) next3 =>
      if decide (s2.2 < (a0.length : Int)) then
        (idx a0 s2.2).bind fun y7 =>
        (M.laws_szCategory y7 s2.1).bind fun v8 =>
        if decide (v8 < 0) then
          some (-1)
        else
          next3 (v8, IntKind.i64.wrap (s2.2 + 1))
      else
        some s2.1) fuel (IntKind.i64.wrap (a1 - (a0.length : Int)), 0)

def M.laws_szFunctorS (a0 : List XFunctor) (a1 : Int) : Option Int :=
  if decide ((IntKind.i64.wrap (a1 - (a0.length : Int))) < 0) then
    some (-1)
  else
    iter (fun (s2 : Int × Int) next3 =>
      if decide (s2.2 < (a0.length : Int)) then
        (idx a0 s2.2).bind fun y7 =>
        (M.laws_szFunctor y7 s2.1).bind fun v8 =>
        if decide (v8 < 0) then
          some (-1)
        else
          next3 (v8, IntKind.i64.wrap (s2.2 + 1))
      else
        some s2.1) fuel (IntKind.i64.wrap (a1 - (a0.length : Int)), 0)

def M.laws_szFamily (a0 : XFamily) (a1 : Int) : Option Int :=
  (M.laws_szCategory a0.Base a1).bind fun v1 =>
  if decide (v1 < 0) then
    some (-1)
  else
    (M.laws_szCategoryS a0.Fibres v1).bind fun v3 =>
    if decide (v3 < 0) then
      some (-1)
    else
      (M.laws_szFunctorS a0.Changes v3).bind fun v5 =>
      if decide (v5 < 0) then
        some (-1)
      else
        some v5

def M.spec_IsFamily (a0 : XFamily) : Option Bool :=
  (M.spec_l02Is a0.Base).bind fun v1 =>
  if v1 then
    if (a0.Fibres.length : Int) != a0.Base.Objects then
      some false
    else
      if (a0.Changes.length : Int) != (a0.Base.From.length : Int) then
        some false
      else
        iter (fun (s5 : Int) next6 =>
          if decide (s5 < (a0.Fibres.length : Int)) then
            (idx a0.Fibres s5).bind fun y10 =>
            (M.spec_l02Is y10).bind fun v11 =>
            if v11 then
              next6 (IntKind.i64.wrap (s5 + 1))
            else
              some false
          else
            iter (fun (s13 : Int) next14 =>
              if decide (s13 < (a0.Changes.length : Int)) then
                (idx a0.Changes s13).bind fun y18 =>
                (M.spec_l06Is y18).bind fun v19 =>
                if v19 then
                  (idx a0.Base.From s13).bind fun y21 =>
                  (idx a0.Fibres y21).bind fun y22 =>
                  (M.spec_l02Same y18.Source y22).bind fun v23 =>
                  if v23 then
                    (idx a0.Base.To s13).bind fun y25 =>
                    (idx a0.Fibres y25).bind fun y26 =>
                    (M.spec_l02Same y18.Target y26).bind fun v27 =>
                    if v27 then
                      next14 (IntKind.i64.wrap (s13 + 1))
                    else
                      some false
                  else
                    some false
                else
                  some false
              else
                iter (fun (s29 : Int) next30 =>
                  if decide (s29 < (a0.Fibres.length : Int)) then
                    (idx a0.Base.Identity s29).bind fun y34 =>
                    (idx a0.Changes y34).bind fun y35 =>
                    (idx a0.Fibres s29).bind fun y36 =>
                    (M.spec_l06Self y36).bind fun v37 =>
                    (M.spec_l06Same y35 v37).bind fun v38 =>
                    if v38 then
                      next30 (IntKind.i64.wrap (s29 + 1))
                    else
                      some false
                  else
                    iter (fun (s40 : Int) next41 =>
                      if decide (s40 < (a0.Changes.length : Int)) then
                        iter (fun (s45 : Int) next46 =>
                          if decide (s45 < (a0.Changes.length : Int)) then
                            (idx a0.Base.To s40).bind fun y50 =>
                            (idx a0.Base.From s45).bind fun y51 =>
                            if y50 == y51 then
                              (idx a0.Base.Composites s40).bind fun y53 =>
                              (idx y53 s45).bind fun y54 =>
                              (idx a0.Changes y54).bind fun y55 =>
                              (idx a0.Changes s40).bind fun y56 =>
                              (idx a0.Changes s45).bind fun y57 =>
                              (M.spec_l06Then y56 y57).bind fun v58 =>
                              (M.spec_l06Same y55 v58).bind fun v59 =>
                              if v59 then
                                next46 (IntKind.i64.wrap (s45 + 1))
                              else
                                some false
                            else
                              next46 (IntKind.i64.wrap (s45 + 1))
                          else
                            next41 (IntKind.i64.wrap (s40 + 1))) fuel 0
                      else
                        some true) fuel 0) fuel 0) fuel 0) fuel 0
  else
    some false

def M.laws_toCategoryS (a0 : List XCategory) : Option (List XCategory) :=
  chk ((0 : Int) ≤ (a0.length : Int) ∧ (a0.length : Int) ≤ (lim : Int)) (
    iter (fun (s2 : (List XCategory) × Int) next3 =>
      if decide (s2.2 < (a0.length : Int)) then
        (idx a0 s2.2).bind fun y7 =>
        (M.laws_toCategory y7).bind fun v8 =>
        (idx s2.1 s2.2).bind fun _ =>
        next3 (s2.1.set s2.2.toNat v8, IntKind.i64.wrap (s2.2 + 1))
      else
        some s2.1) fuel ((List.replicate (a0.length : Int).toNat (⟨0, [], [], [], []⟩ : XCategory)), 0))

def M.laws_toFunctorS (a0 : List XFunctor) : Option (List XFunctor) :=
  chk ((0 : Int) ≤ (a0.length : Int) ∧ (a0.length : Int) ≤ (lim : Int)) (
    iter (fun (s2 : (List XFunctor) × Int) next3 =>
      if decide (s2.2 < (a0.length : Int)) then
        (idx a0 s2.2).bind fun y7 =>
        (M.laws_toFunctor y7).bind fun v8 =>
        (idx s2.1 s2.2).bind fun _ =>
        next3 (s2.1.set s2.2.toNat v8, IntKind.i64.wrap (s2.2 + 1))
      else
        some s2.1) fuel ((List.replicate (a0.length : Int).toNat (⟨⟨0, [], [], [], []⟩, ⟨0, [], [], [], []⟩, [], []⟩ : XFunctor)), 0))

def M.laws_toFamily (a0 : XFamily) : Option XFamily :=
  (M.laws_toCategory a0.Base).bind fun v1 =>
  (M.laws_toCategoryS a0.Fibres).bind fun v2 =>
  (M.laws_toFunctorS a0.Changes).bind fun v3 =>
  some (⟨v1, v2, v3⟩ : XFamily)

def M.impl_Family_isFamily (a0 : XFamily) : Option Bool :=
  (M.impl_Category_isCategory a0.Base).bind fun v1 =>
  if v1 then
    if (a0.Fibres.length : Int) != a0.Base.Objects then
      some false
    else
      (M.impl_Category_arrows a0.Base).bind fun v4 =>
      if (a0.Changes.length : Int) != v4 then
        some false
      else
        iter (fun (s6 : Int) next7 =>
          if decide (s6 < (a0.Fibres.length : Int)) then
            (idx a0.Fibres s6).bind fun y11 =>
            (M.impl_Category_isCategory y11).bind fun v12 =>
            if v12 then
              next7 (IntKind.i64.wrap (s6 + 1))
            else
              some false
          else
            iter (fun (s14 : Int) next15 =>
              if decide (s14 < (a0.Changes.length : Int)) then
                (idx a0.Changes s14).bind fun y19 =>
                (M.impl_Functor_isFunctor y19).bind fun v20 =>
                if v20 then
                  (idx a0.Base.From s14).bind fun y22 =>
                  (idx a0.Fibres y22).bind fun y23 =>
                  (M.impl_sameCategory y19.Source y23).bind fun v24 =>
                  if v24 then
                    (idx a0.Base.To s14).bind fun y26 =>
                    (idx a0.Fibres y26).bind fun y27 =>
                    (M.impl_sameCategory y19.Target y27).bind fun v28 =>
                    if v28 then
                      next15 (IntKind.i64.wrap (s14 + 1))
                    else
                      some false
                  else
                    some false
                else
                  some false
              else
                iter (fun (s30 : Int) next31 =>
                  if decide (s30 < (a0.Base.Identity.length : Int)) then
                    (idx a0.Base.Identity s30).bind fun y35 =>
                    (idx a0.Fibres s30).bind fun y36 =>
                    (M.impl_identity y36).bind fun v37 =>
                    (idx a0.Changes y35).bind fun y38 =>
                    (M.impl_sameFunctor y38 v37).bind fun v39 =>
                    if v39 then
                      next31 (IntKind.i64.wrap (s30 + 1))
                    else
                      some false
                  else
                    iter (fun (s41 : Int) next42 =>
                      if decide (s41 < (a0.Base.Composites.length : Int)) then
                        (idx a0.Base.Composites s41).bind fun y46 =>
                        iter (fun (s47 : Int) next48 =>
                          if decide (s47 < (y46.length : Int)) then
                            (idx y46 s47).bind fun y52 =>
                            if decide (y52 < 0) then
                              next48 (IntKind.i64.wrap (s47 + 1))
                            else
                              (idx a0.Changes s41).bind fun y54 =>
                              (idx a0.Changes s47).bind fun y55 =>
                              (M.impl_Functor_then y54 y55).bind fun v56 =>
                              (idx a0.Changes y52).bind fun y57 =>
                              (M.impl_sameFunctor y57 v56).bind fun v58 =>
                              if v58 then
                                next48 (IntKind.i64.wrap (s47 + 1))
                              else
                                some false
                          else
                            next42 (IntKind.i64.wrap (s41 + 1))) fuel 0
                      else
                        some true) fuel 0) fuel 0) fuel 0) fuel 0
  else
    some false

def M.impl_IsFamily (a0 : XFamily) : Option Bool :=
  (M.impl_Family_isFamily a0).bind fun v1 =>
  some v1

def M.laws_eqCategoryS (a0 : List XCategory) (a1 : List XCategory) : Option Bool :=
  if (a0.length : Int) != (a1.length : Int) then
    some false
  else
    iter (fun (s2 : Int) next3 =>
      if decide (s2 < (a0.length : Int)) then
        (idx a0 s2).bind fun y7 =>
        (idx a1 s2).bind fun y8 =>
        (M.laws_eqCategory y7 y8).bind fun v9 =>
        if v9 then
          next3 (IntKind.i64.wrap (s2 + 1))
        else
          some false
      else
        some true) fuel 0

def M.laws_eqFunctorS (a0 : List XFunctor) (a1 : List XFunctor) : Option Bool :=
  if (a0.length : Int) != (a1.length : Int) then
    some false
  else
    iter (fun (s2 : Int) next3 =>
      if decide (s2 < (a0.length : Int)) then
        (idx a0 s2).bind fun y7 =>
        (idx a1 s2).bind fun y8 =>
        (M.laws_eqFunctor y7 y8).bind fun v9 =>
        if v9 then
          next3 (IntKind.i64.wrap (s2 + 1))
        else
          some false
      else
        some true) fuel 0

def M.laws_eqFamily (a0 : XFamily) (a1 : XFamily) : Option Bool :=
  (M.laws_eqCategory a0.Base a1.Base).bind fun v1 =>
  if v1 then
    (M.laws_eqCategoryS a0.Fibres a1.Fibres).bind fun v3 =>
    if v3 then
      (M.laws_eqFunctorS a0.Changes a1.Changes).bind fun v5 =>
      if v5 then
        some true
      else
        some false
    else
      some false
  else
    some false

def M.laws_FnExactIsFamily (a0 : XFamily) : Option Bool :=
  (M.laws_szFamily a0 1048576).bind fun v1 =>
  if decide (v1 < 0) then
    some true
  else
    (M.laws_toFamily a0).bind fun v3 =>
    (M.spec_IsFamily v3).bind fun v4 =>
    (M.impl_IsFamily v3).bind fun v5 =>
    if (v5 == v4) == false then
      some false
    else
      (M.laws_eqFamily v3 v3).bind fun v7 =>
      if v7 then
        some true
      else
        some false

end Go.Gx
