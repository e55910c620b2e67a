/- Models of the functions. Printed by wip/gen. -/
import Derived.Test.YtpfdieaiogfihaaGxwNM
import Derived.Test.YtpfdieaiogfihaaGxE1
namespace Go.Gx

structure XMonad where
  On : XFunctor
  Unit : List Int
  Join : List Int
def eXMonad : Enc XMonad := (eA (eC eXFunctor XMonad.On) (eA (eC (eS eI) XMonad.Unit) (eC (eS eI) XMonad.Join)))
theorem eXMonad_ok : EncOk eXMonad := (eA_ok (eC_ok eXFunctor_ok _) (eA_ok (eC_ok (eS_ok eI_ok) _) (eC_ok (eS_ok eI_ok) _)))
def R.XMonad (x : XMonad) : Prop := (R.XFunctor x.On) ∧ (AllL I64 x.Unit) ∧ (AllL I64 x.Join)
theorem eXMonad_nb : EncNb eXMonad := (eA_nb (eC_nb eXFunctor_nb _) (eA_nb (eC_nb (eS_nb eI_nb) _) (eC_nb (eS_nb eI_nb) _)))

def M.laws_szMonad (a0 : XMonad) (a1 : Int) : Option Int :=
  (M.laws_szFunctor a0.On a1).bind fun v1 =>
  if decide (v1 < 0) then
    some (-1)
  else
    (M.laws_szInt64S a0.Unit v1).bind fun v3 =>
    if decide (v3 < 0) then
      some (-1)
    else
      (M.laws_szInt64S a0.Join v3).bind fun v5 =>
      if decide (v5 < 0) then
        some (-1)
      else
        some v5

def M.laws_toMonad (a0 : XMonad) : Option XMonad :=
  (M.laws_toFunctor a0.On).bind fun v1 =>
  (M.laws_toInt64S a0.Unit).bind fun v2 =>
  (M.laws_toInt64S a0.Join).bind fun v3 =>
  some (⟨v1, v2, v3⟩ : XMonad)

def M.spec_l16Twice (a0 : XFunctor) : Option XFunctor :=
  (M.spec_l06Then a0 a0).bind fun v1 =>
  some v1

def M.spec_l16Laws (a0 : XFunctor) (a1 : List Int) (a2 : List Int) : Option Bool :=
  iter (fun (s1 : Int) next2 =>
    if decide (s1 < a0.Source.Objects) then
      (idx a0.Objects s1).bind fun y6 =>
      (idx a1 s1).bind fun y7 =>
      (idx a0.Arrows y7).bind fun y8 =>
      (idx a2 s1).bind fun y9 =>
      (M.spec_l02Then a0.Source y8 y9).bind fun v10 =>
      (M.spec_l02Unit a0.Source v10).bind fun v11 =>
      if v11 then
        (idx a1 y6).bind fun y13 =>
        (M.spec_l02Then a0.Source y13 y9).bind fun v14 =>
        (M.spec_l02Unit a0.Source v14).bind fun v15 =>
        if v15 then
          (idx a0.Arrows y9).bind fun y17 =>
          (M.spec_l02Then a0.Source y17 y9).bind fun v18 =>
          (idx a2 y6).bind fun y19 =>
          (M.spec_l02Then a0.Source y19 y9).bind fun v20 =>
          if v18 != v20 then
            some false
          else
            next2 (IntKind.i64.wrap (s1 + 1))
        else
          some false
      else
        some false
    else
      some true) fuel 0

def M.spec_l16Is (a0 : XMonad) : Option Bool :=
  (M.spec_l06Is a0.On).bind fun v1 =>
  if v1 then
    (M.spec_l02Same a0.On.Source a0.On.Target).bind fun v3 =>
    if v3 then
      (M.spec_l06Self a0.On.Source).bind fun v5 =>
      (M.spec_l15Natural v5 a0.On a0.Unit).bind fun v6 =>
      if v6 then
        (M.spec_l16Twice a0.On).bind fun v8 =>
        (M.spec_l15Natural v8 a0.On a0.Join).bind fun v9 =>
        if v9 then
          (M.spec_l16Laws a0.On a0.Unit a0.Join).bind fun v11 =>
          some v11
        else
          some false
      else
        some false
    else
      some false
  else
    some false

def M.impl_Monad_object (a0 : XMonad) (a1 : Int) : Option Int :=
  (idx a0.On.Objects a1).bind fun y1 =>
  some y1

def M.impl_Monad_arrow (a0 : XMonad) (a1 : Int) : Option Int :=
  (idx a0.On.Arrows a1).bind fun y1 =>
  some y1

def M.impl_Monad_isLawful (a0 : XMonad) : Option Bool :=
  iter (fun (s1 : Int) next2 =>
    if decide (s1 < a0.On.Source.Objects) then
      (M.impl_Monad_object a0 s1).bind fun v6 =>
      (idx a0.Unit s1).bind fun y7 =>
      (M.impl_Monad_arrow a0 y7).bind fun v8 =>
      (idx a0.Join s1).bind fun y9 =>
      (M.impl_Category_then a0.On.Source v8 y9).bind fun v10 =>
      (idx a0.On.Source.Identity v6).bind fun y11 =>
      if v10 != y11 then
        some false
      else
        (idx a0.Unit v6).bind fun y13 =>
        (M.impl_Category_then a0.On.Source y13 y9).bind fun v14 =>
        if v14 != y11 then
          some false
        else
          (M.impl_Monad_arrow a0 y9).bind fun v16 =>
          (M.impl_Category_then a0.On.Source v16 y9).bind fun v17 =>
          (idx a0.Join v6).bind fun y18 =>
          (M.impl_Category_then a0.On.Source y18 y9).bind fun v19 =>
          if v17 != v19 then
            some false
          else
            next2 (IntKind.i64.wrap (s1 + 1))
    else
      some true) fuel 0

def M.impl_Monad_isMonad (a0 : XMonad) : Option Bool :=
  (M.impl_Functor_isFunctor a0.On).bind fun v1 =>
  if v1 then
    (M.impl_sameCategory a0.On.Source a0.On.Target).bind fun v3 =>
    if v3 then
      (M.impl_identity a0.On.Source).bind fun v5 =>
      (M.impl_Functor_then a0.On a0.On).bind fun v6 =>
      (M.impl_areNatural ([(⟨v5, a0.On, a0.Unit⟩ : XTransformation), (⟨v6, a0.On, a0.Join⟩ : XTransformation)] : List XTransformation)).bind fun v7 =>
      if v7 then
        (M.impl_Monad_isLawful a0).bind fun v9 =>
        some v9
      else
        some false
    else
      some false
  else
    some false

def M.laws_eqMonad (a0 : XMonad) (a1 : XMonad) : Option Bool :=
  (M.laws_eqFunctor a0.On a1.On).bind fun v1 =>
  if v1 then
    (M.laws_eqInt64S a0.Unit a1.Unit).bind fun v3 =>
    if v3 then
      (M.laws_eqInt64S a0.Join a1.Join).bind fun v5 =>
      if v5 then
        some true
      else
        some false
    else
      some false
  else
    some false

end Go.Gx
