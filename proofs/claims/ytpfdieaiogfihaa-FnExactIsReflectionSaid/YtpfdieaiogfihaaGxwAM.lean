/- Models of the functions. Printed by wip/gen. -/
import Derived.Test.YtpfdieaiogfihaaGxwNM
import Derived.Test.YtpfdieaiogfihaaGxE1
namespace Go.Gx

structure XAdjunction where
  Left : XFunctor
  Right : XFunctor
  Unit : List Int
  Counit : List Int
def eXAdjunction : Enc XAdjunction := (eA (eC eXFunctor XAdjunction.Left) (eA (eC eXFunctor XAdjunction.Right) (eA (eC (eS eI) XAdjunction.Unit) (eC (eS eI) XAdjunction.Counit))))
theorem eXAdjunction_ok : EncOk eXAdjunction := (eA_ok (eC_ok eXFunctor_ok _) (eA_ok (eC_ok eXFunctor_ok _) (eA_ok (eC_ok (eS_ok eI_ok) _) (eC_ok (eS_ok eI_ok) _))))
def R.XAdjunction (x : XAdjunction) : Prop := (R.XFunctor x.Left) ∧ (R.XFunctor x.Right) ∧ (AllL I64 x.Unit) ∧ (AllL I64 x.Counit)
theorem eXAdjunction_nb : EncNb eXAdjunction := (eA_nb (eC_nb eXFunctor_nb _) (eA_nb (eC_nb eXFunctor_nb _) (eA_nb (eC_nb (eS_nb eI_nb) _) (eC_nb (eS_nb eI_nb) _))))

def M.laws_szAdjunction (a0 : XAdjunction) (a1 : Int) : Option Int :=
  (M.laws_szFunctor a0.Left a1).bind fun v1 =>
  if decide (v1 < 0) then
    some (-1)
  else
    (M.laws_szFunctor a0.Right v1).bind fun v3 =>
    if decide (v3 < 0) then
      some (-1)
    else
      (M.laws_szInt64S a0.Unit v3).bind fun v5 =>
      if decide (v5 < 0) then
        some (-1)
      else
        (M.laws_szInt64S a0.Counit v5).bind fun v7 =>
        if decide (v7 < 0) then
          some (-1)
        else
          some v7

def M.laws_toAdjunction (a0 : XAdjunction) : Option XAdjunction :=
  (M.laws_toFunctor a0.Left).bind fun v1 =>
  (M.laws_toFunctor a0.Right).bind fun v2 =>
  (M.laws_toInt64S a0.Unit).bind fun v3 =>
  (M.laws_toInt64S a0.Counit).bind fun v4 =>
  some (⟨v1, v2, v3, v4⟩ : XAdjunction)

def M.spec_l15Meets (a0 : XFunctor) (a1 : XFunctor) : Option Bool :=
  (M.spec_l02Same a0.Target a1.Source).bind fun v1 =>
  if v1 then
    (M.spec_l02Same a1.Target a0.Source).bind fun v3 =>
    some v3
  else
    some false

def M.spec_l15Is (a0 : XAdjunction) : Option Bool :=
  (M.spec_l06Is a0.Left).bind fun v1 =>
  if v1 then
    (M.spec_l06Is a0.Right).bind fun v3 =>
    if v3 then
      (M.spec_l15Meets a0.Left a0.Right).bind fun v5 =>
      if v5 then
        (M.spec_l06Self a0.Left.Source).bind fun v7 =>
        (M.spec_l06Then a0.Left a0.Right).bind fun v8 =>
        (M.spec_l15Natural v7 v8 a0.Unit).bind fun v9 =>
        if v9 then
          (M.spec_l06Then a0.Right a0.Left).bind fun v11 =>
          (M.spec_l06Self a0.Left.Target).bind fun v12 =>
          (M.spec_l15Natural v11 v12 a0.Counit).bind fun v13 =>
          if v13 then
            iter (fun (s15 : Int) next16 =>
              if decide (s15 < a0.Left.Source.Objects) then
                (idx a0.Unit s15).bind fun y20 =>
                (idx a0.Left.Arrows y20).bind fun y21 =>
                (idx a0.Left.Objects s15).bind fun y22 =>
                (idx a0.Counit y22).bind fun y23 =>
                (M.spec_l02Then a0.Left.Target y21 y23).bind fun v24 =>
                (M.spec_l02Unit a0.Left.Target v24).bind fun v25 =>
                if v25 then
                  next16 (IntKind.i64.wrap (s15 + 1))
                else
                  some false
              else
                iter (fun (s27 : Int) next28 =>
                  if decide (s27 < a0.Left.Target.Objects) then
                    (idx a0.Right.Objects s27).bind fun y32 =>
                    (idx a0.Unit y32).bind fun y33 =>
                    (idx a0.Counit s27).bind fun y34 =>
                    (idx a0.Right.Arrows y34).bind fun y35 =>
                    (M.spec_l02Then a0.Left.Source y33 y35).bind fun v36 =>
                    (M.spec_l02Unit a0.Left.Source v36).bind fun v37 =>
                    if v37 then
                      next28 (IntKind.i64.wrap (s27 + 1))
                    else
                      some false
                  else
                    some true) fuel 0) fuel 0
          else
            some false
        else
          some false
      else
        some false
    else
      some false
  else
    some false

def M.impl_leadBack (a0 : XFunctor) (a1 : XFunctor) : Option Bool :=
  (M.impl_sameCategory a0.Source a1.Target).bind fun v1 =>
  if v1 then
    (M.impl_sameCategory a0.Target a1.Source).bind fun v3 =>
    some v3
  else
    some false

def M.impl_Adjunction_fits (a0 : XAdjunction) : Option Bool :=
  (M.impl_Functor_then a0.Left a0.Right).bind fun v1 =>
  (M.impl_Functor_then a0.Right a0.Left).bind fun v2 =>
  (M.impl_identity a0.Left.Source).bind fun v3 =>
  (M.impl_identity a0.Left.Target).bind fun v4 =>
  (M.impl_areNatural ([(⟨v3, v1, a0.Unit⟩ : XTransformation), (⟨v2, v4, a0.Counit⟩ : XTransformation)] : List XTransformation)).bind fun v5 =>
  if v5 then
    iter (fun (s7 : Int) next8 =>
      if decide (s7 < (a0.Left.Objects.length : Int)) then
        (idx a0.Left.Objects s7).bind fun y12 =>
        (idx a0.Unit s7).bind fun y13 =>
        (idx a0.Left.Arrows y13).bind fun y14 =>
        (idx a0.Counit y12).bind fun y15 =>
        (M.impl_Category_then a0.Left.Target y14 y15).bind fun v16 =>
        (idx a0.Left.Target.Identity y12).bind fun y17 =>
        if v16 != y17 then
          some false
        else
          next8 (IntKind.i64.wrap (s7 + 1))
      else
        iter (fun (s19 : Int) next20 =>
          if decide (s19 < (a0.Right.Objects.length : Int)) then
            (idx a0.Right.Objects s19).bind fun y24 =>
            (idx a0.Unit y24).bind fun y25 =>
            (idx a0.Counit s19).bind fun y26 =>
            (idx a0.Right.Arrows y26).bind fun y27 =>
            (M.impl_Category_then a0.Left.Source y25 y27).bind fun v28 =>
            (idx a0.Left.Source.Identity y24).bind fun y29 =>
            if v28 != y29 then
              some false
            else
              next20 (IntKind.i64.wrap (s19 + 1))
          else
            some true) fuel 0) fuel 0
  else
    some false

def M.impl_Adjunction_isAdjunction (a0 : XAdjunction) : Option Bool :=
  (M.impl_areFunctors ([a0.Left, a0.Right] : List XFunctor)).bind fun v1 =>
  if v1 then
    (M.impl_leadBack a0.Left a0.Right).bind fun v3 =>
    if v3 then
      (M.impl_Adjunction_fits a0).bind fun v5 =>
      some v5
    else
      some false
  else
    some false

def M.laws_eqAdjunction (a0 : XAdjunction) (a1 : XAdjunction) : Option Bool :=
  (M.laws_eqFunctor a0.Left a1.Left).bind fun v1 =>
  if v1 then
    (M.laws_eqFunctor a0.Right a1.Right).bind fun v3 =>
    if v3 then
      (M.laws_eqInt64S a0.Unit a1.Unit).bind fun v5 =>
      if v5 then
        (M.laws_eqInt64S a0.Counit a1.Counit).bind fun v7 =>
        if v7 then
          some true
        else
          some false
      else
        some false
    else
      some false
  else
    some false

end Go.Gx
