/- Models of the functions. Printed by wip/gen. -/
import Derived.Test.YtpfdieaiogfihaaGxwRM
import Derived.Test.YtpfdieaiogfihaaGxE1
namespace Go.Gx

def M.spec_l16Map (a0 : XMonad) (a1 : XMonad) (a2 : List Int) : Option Bool :=
  (M.spec_l15Natural a0.On a1.On a2).bind fun v1 =>
  if v1 then
    iter (fun (s3 : Int) next4 =>
      if decide (s3 < a0.On.Source.Objects) then
        (idx a0.Unit s3).bind fun y8 =>
        (idx a2 s3).bind fun y9 =>
        (M.spec_l02Then a0.On.Source y8 y9).bind fun v10 =>
        (idx a1.Unit s3).bind fun y11 =>
        if v10 != y11 then
          some false
        else
          (idx a0.On.Objects s3).bind fun y13 =>
          (idx a2 y13).bind fun y14 =>
          (idx a1.On.Arrows y9).bind fun y15 =>
          (M.spec_l02Then a0.On.Source y14 y15).bind fun v16 =>
          (idx a0.Join s3).bind fun y17 =>
          (M.spec_l02Then a0.On.Source y17 y9).bind fun v18 =>
          (idx a1.Join s3).bind fun y19 =>
          (M.spec_l02Then a0.On.Source v16 y19).bind fun v20 =>
          if v18 != v20 then
            some false
          else
            next4 (IntKind.i64.wrap (s3 + 1))
      else
        some true) fuel 0
  else
    some false

def M.spec_IsMonadMap (a0 : XMonad) (a1 : XMonad) (a2 : List Int) : Option (Bool × Int) :=
  (M.spec_l16Two a0 a1).bind fun v1 =>
  if v1 != 0 then
    some (false, v1)
  else
    (M.spec_l16Map a0 a1 a2).bind fun v3 =>
    some (v3, 0)

def M.impl_isMonadMap (a0 : XMonad) (a1 : XMonad) (a2 : List Int) : Option Bool :=
  (M.impl_Transformation_isNatural (⟨a0.On, a1.On, a2⟩ : XTransformation)).bind fun v1 =>
  if v1 then
    iter (fun (s3 : Int) next4 =>
      if decide (s3 < (a2.length : Int)) then
        (idx a2 s3).bind fun y8 =>
        (idx a0.Unit s3).bind fun y9 =>
        (M.impl_Category_then a0.On.Source y9 y8).bind fun v10 =>
        (idx a1.Unit s3).bind fun y11 =>
        if v10 != y11 then
          some false
        else
          (idx a0.Join s3).bind fun y13 =>
          (M.impl_Category_then a0.On.Source y13 y8).bind fun v14 =>
          (M.impl_Monad_object a0 s3).bind fun v15 =>
          (idx a2 v15).bind fun y16 =>
          (M.impl_Monad_arrow a1 y8).bind fun v17 =>
          (M.impl_Category_then a0.On.Source y16 v17).bind fun v18 =>
          (idx a1.Join s3).bind fun y19 =>
          (M.impl_Category_then a0.On.Source v18 y19).bind fun v20 =>
          if v14 != v20 then
            some false
          else
            next4 (IntKind.i64.wrap (s3 + 1))
      else
        some true) fuel 0
  else
    some false

def M.impl_IsMonadMap (a0 : XMonad) (a1 : XMonad) (a2 : List Int) : Option (Bool × Int) :=
  (M.impl_monadsCode a0 a1).bind fun v1 =>
  if v1 != 0 then
    some (false, v1)
  else
    (M.impl_isMonadMap a0 a1 a2).bind fun v3 =>
    some (v3, 0)

def M.laws_FnExactIsMonadMap (a0 : XMonad) (a1 : XMonad) (a2 : List Int) : Option Bool :=
  if decide ((a2.length : Int) > 1048576) then
    some true
  else
    (M.laws_szMonad a0 1048576).bind fun v2 =>
    if decide (v2 < 0) then
      some true
    else
      (M.laws_szMonad a1 v2).bind fun v4 =>
      if decide (v4 < 0) then
        some true
      else
        (M.laws_toMonad a0).bind fun v6 =>
        (M.laws_toMonad a1).bind fun v7 =>
        (M.laws_toInt64S a2).bind fun v8 =>
        (M.spec_IsMonadMap v6 v7 v8).bind fun v9 =>
        (M.impl_IsMonadMap v6 v7 v8).bind fun v10 =>
        if (v10.1 == v9.1) == false then
          some false
        else
          if v10.2 != v9.2 then
            some false
          else
            (M.laws_eqMonad v6 v6).bind fun v13 =>
            if v13 then
              (M.laws_eqMonad v7 v7).bind fun v15 =>
              if v15 then
                (M.laws_eqInt64S v8 v8).bind fun v17 =>
                if v17 then
                  some true
                else
                  some false
              else
                some false
            else
              some false

end Go.Gx
