/- Models of the functions. Printed by wip/gen. -/
import Derived.Test.YtpfdieaiogfihaaGxwRM
import Derived.Test.YtpfdieaiogfihaaGxE1
namespace Go.Gx

def M.spec_l16Law (a0 : XMonad) (a1 : XMonad) (a2 : List Int) : Option Bool :=
  (M.spec_l06Then a1.On a0.On).bind fun v1 =>
  (M.spec_l06Then a0.On a1.On).bind fun v2 =>
  (M.spec_l15Natural v1 v2 a2).bind fun v3 =>
  if v3 then
    iter (fun (s5 : Int) next6 =>
      if decide (s5 < a0.On.Source.Objects) then
        (idx a0.On.Objects s5).bind fun y10 =>
        (idx a1.On.Objects s5).bind fun y11 =>
        (idx a1.Unit s5).bind fun y12 =>
        (idx a0.On.Arrows y12).bind fun y13 =>
        (idx a2 s5).bind fun y14 =>
        (M.spec_l02Then a0.On.Source y13 y14).bind fun v15 =>
        (idx a1.Unit y10).bind fun y16 =>
        if v15 != y16 then
          some false
        else
          (idx a0.Unit y11).bind fun y18 =>
          (M.spec_l02Then a0.On.Source y18 y14).bind fun v19 =>
          (idx a0.Unit s5).bind fun y20 =>
          (idx a1.On.Arrows y20).bind fun y21 =>
          if v19 != y21 then
            some false
          else
            (idx a2 y11).bind fun y23 =>
            (idx a1.On.Arrows y14).bind fun y24 =>
            (M.spec_l02Then a0.On.Source y23 y24).bind fun v25 =>
            (idx a1.Join y10).bind fun y26 =>
            (M.spec_l02Then a0.On.Source v25 y26).bind fun v27 =>
            (idx a1.Join s5).bind fun y28 =>
            (idx a0.On.Arrows y28).bind fun y29 =>
            (M.spec_l02Then a0.On.Source y29 y14).bind fun v30 =>
            if v30 != v27 then
              some false
            else
              (idx a0.On.Arrows y14).bind fun y32 =>
              (idx a2 y10).bind fun y33 =>
              (M.spec_l02Then a0.On.Source y32 y33).bind fun v34 =>
              (idx a0.Join s5).bind fun y35 =>
              (idx a1.On.Arrows y35).bind fun y36 =>
              (M.spec_l02Then a0.On.Source v34 y36).bind fun v37 =>
              (idx a0.Join y11).bind fun y38 =>
              (M.spec_l02Then a0.On.Source y38 y14).bind fun v39 =>
              if v39 != v37 then
                some false
              else
                next6 (IntKind.i64.wrap (s5 + 1))
      else
        some true) fuel 0
  else
    some false

def M.spec_IsDistributiveLaw (a0 : XMonad) (a1 : XMonad) (a2 : List Int) : Option (Bool × Int) :=
  (M.spec_l16Two a0 a1).bind fun v1 =>
  if v1 != 0 then
    some (false, v1)
  else
    (M.spec_l16Law a0 a1 a2).bind fun v3 =>
    some (v3, 0)

def M.impl_isLaw (a0 : XMonad) (a1 : XMonad) (a2 : List Int) : Option Bool :=
  (M.impl_Functor_then a1.On a0.On).bind fun v1 =>
  (M.impl_Functor_then a0.On a1.On).bind fun v2 =>
  (M.impl_Transformation_isNatural (⟨v1, v2, a2⟩ : XTransformation)).bind fun v3 =>
  if v3 then
    iter (fun (s5 : Int) next6 =>
      if decide (s5 < (a2.length : Int)) then
        (idx a2 s5).bind fun y10 =>
        (M.impl_Monad_object a0 s5).bind fun v11 =>
        (M.impl_Monad_object a1 s5).bind fun v12 =>
        (idx a1.Unit s5).bind fun y13 =>
        (M.impl_Monad_arrow a0 y13).bind fun v14 =>
        (M.impl_Category_then a0.On.Source v14 y10).bind fun v15 =>
        (idx a1.Unit v11).bind fun y16 =>
        if v15 != y16 then
          some false
        else
          (idx a0.Unit v12).bind fun y18 =>
          (M.impl_Category_then a0.On.Source y18 y10).bind fun v19 =>
          (idx a0.Unit s5).bind fun y20 =>
          (M.impl_Monad_arrow a1 y20).bind fun v21 =>
          if v19 != v21 then
            some false
          else
            (idx a1.Join s5).bind fun y23 =>
            (M.impl_Monad_arrow a0 y23).bind fun v24 =>
            (M.impl_Category_then a0.On.Source v24 y10).bind fun v25 =>
            (idx a2 v12).bind fun y26 =>
            (M.impl_Monad_arrow a1 y10).bind fun v27 =>
            (M.impl_Category_then a0.On.Source y26 v27).bind fun v28 =>
            (idx a1.Join v11).bind fun y29 =>
            (M.impl_Category_then a0.On.Source v28 y29).bind fun v30 =>
            if v25 != v30 then
              some false
            else
              (idx a0.Join v12).bind fun y32 =>
              (M.impl_Category_then a0.On.Source y32 y10).bind fun v33 =>
              (M.impl_Monad_arrow a0 y10).bind fun v34 =>
              (idx a2 v11).bind fun y35 =>
              (M.impl_Category_then a0.On.Source v34 y35).bind fun v36 =>
              (idx a0.Join s5).bind fun y37 =>
              (M.impl_Monad_arrow a1 y37).bind fun v38 =>
              (M.impl_Category_then a0.On.Source v36 v38).bind fun v39 =>
              if v33 != v39 then
                some false
              else
                next6 (IntKind.i64.wrap (s5 + 1))
      else
        some true) fuel 0
  else
    some false

def M.impl_IsDistributiveLaw (a0 : XMonad) (a1 : XMonad) (a2 : List Int) : Option (Bool × Int) :=
  (M.impl_monadsCode a0 a1).bind fun v1 =>
  if v1 != 0 then
    some (false, v1)
  else
    (M.impl_isLaw a0 a1 a2).bind fun v3 =>
    some (v3, 0)

def M.laws_FnExactIsDistributiveLaw (a0 : XMonad) (a1 : XMonad) (a2 : List Int) : Option Bool :=
  if decide ((a2.length : Int) > 1048576) then
    some true
  else
    (M.laws_szMonad a0 1048576).bind fun v2 =>
    if decide (v2 < 0) then
      some true
    else
      (M.laws_szMonad a1 v2).bind fun v4 =>
      if decide (v4 < 0) then
        some true
      else
        (M.laws_toMonad a0).bind fun v6 =>
        (M.laws_toMonad a1).bind fun v7 =>
        (M.laws_toInt64S a2).bind fun v8 =>
        (M.spec_IsDistributiveLaw v6 v7 v8).bind fun v9 =>
        (M.impl_IsDistributiveLaw v6 v7 v8).bind fun v10 =>
        if (v10.1 == v9.1) == false then
          some false
        else
          if v10.2 != v9.2 then
            some false
          else
            (M.laws_eqMonad v6 v6).bind fun v13 =>
            if v13 then
              (M.laws_eqMonad v7 v7).bind fun v15 =>
              if v15 then
                (M.laws_eqInt64S v8 v8).bind fun v17 =>
                if v17 then
                  some true
                else
                  some false
              else
                some false
            else
              some false

end Go.Gx
