/- Models of the functions. Printed by wip/gen. -/
import Derived.Test.YtpfdieaiogfihaaGxwNM
import Derived.Test.YtpfdieaiogfihaaGxE1
namespace Go.Gx

def M.spec_l02Inverse (a0 : XCategory) (a1 : Int) : Option Int :=
  (idx a0.To a1).bind fun y1 =>
  (idx a0.From a1).bind fun y2 =>
  (M.spec_l02Hom a0 y1 y2).bind fun v3 =>
  iter (fun (s4 : Int) next5 =>
    if decide (s4 < (v3.length : Int)) then
      (idx v3 s4).bind fun y9 =>
      (M.spec_l02Then a0 a1 y9).bind fun v10 =>
      (M.spec_l02Unit a0 v10).bind fun v11 =>
      if v11 then
        (M.spec_l02Then a0 y9 a1).bind fun v13 =>
        (M.spec_l02Unit a0 v13).bind fun v14 =>
        if v14 then
          some y9
        else
          next5 (IntKind.i64.wrap (s4 + 1))
      else
        next5 (IntKind.i64.wrap (s4 + 1))
    else
      some (-1)) fuel 0

def M.spec_l15Isos (a0 : XCategory) (a1 : List Int) : Option (List Int) :=
  iter (fun (s1 : (List Int) × Int) next2 =>
    if decide (s1.2 < (a1.length : Int)) then
      (idx a1 s1.2).bind fun y6 =>
      (M.spec_l02Inverse a0 y6).bind fun v7 =>
      if decide (v7 ≥ 0) then
        chk (s1.1.length + (([s1.2] : List Int).length) ≤ lim) (
          next2 (s1.1 ++ ([s1.2] : List Int), IntKind.i64.wrap (s1.2 + 1)))
      else
        next2 (s1.1, IntKind.i64.wrap (s1.2 + 1))
    else
      some s1.1) fuel (([] : List Int), 0)

def M.impl_Category_inverse (a0 : XCategory) (a1 : Int) : Option Int :=
  (idx a0.From a1).bind fun y1 =>
  (idx a0.To a1).bind fun y2 =>
  (M.impl_Category_hom a0 y2 y1).bind fun v3 =>
  iter (fun (s4 : Int) next5 =>
    if decide (s4 < (v3.length : Int)) then
      (idx v3 s4).bind fun y9 =>
      (M.impl_Category_then a0 a1 y9).bind fun v10 =>
      (idx a0.Identity y1).bind fun y11 =>
      if v10 == y11 then
        (M.impl_Category_then a0 y9 a1).bind fun v13 =>
        (idx a0.Identity y2).bind fun y14 =>
        if v13 == y14 then
          some y9
        else
          next5 (IntKind.i64.wrap (s4 + 1))
      else
        next5 (IntKind.i64.wrap (s4 + 1))
    else
      some (-1)) fuel 0

def M.impl_Category_isos (a0 : XCategory) (a1 : List Int) : Option (List Int) :=
  iter (fun (s1 : (List Int) × Int) next2 =>
    if decide (s1.2 < (a1.length : Int)) then
      (idx a1 s1.2).bind fun y6 =>
      (M.impl_Category_inverse a0 y6).bind fun v7 =>
      if decide (v7 ≥ 0) then
        chk (s1.1.length + (([s1.2] : List Int).length) ≤ lim) (
          next2 (s1.1 ++ ([s1.2] : List Int), IntKind.i64.wrap (s1.2 + 1)))
      else
        next2 (s1.1, IntKind.i64.wrap (s1.2 + 1))
    else
      some s1.1) fuel (([] : List Int), 0)

end Go.Gx
