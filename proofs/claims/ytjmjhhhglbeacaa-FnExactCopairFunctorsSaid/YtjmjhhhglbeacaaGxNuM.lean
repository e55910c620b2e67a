/- Models of the functions. Printed by wip/gen. -/
import Derived.Test.YtjmjhhhglbeacaaGxBM
import Derived.Test.YtjmjhhhglbeacaaGxE1
namespace Go.Gx

def M.spec_l06Self (a0 : XCategory) : Option XFunctor :=
  iter (fun (s1 : (List Int) × Int) next2 =>
    if decide (s1.2 < a0.Objects) then
      chk (s1.1.length + (([s1.2] : List Int).length) ≤ lim) (
        next2 (s1.1 ++ ([s1.2] : List Int), IntKind.i64.wrap (s1.2 + 1)))
    else
      iter (fun (s7 : (List Int) × Int) next8 =>
        if decide (s7.2 < (a0.From.length : Int)) then
          chk (s7.1.length + (([s7.2] : List Int).length) ≤ lim) (
            next8 (s7.1 ++ ([s7.2] : List Int), IntKind.i64.wrap (s7.2 + 1)))
        else
          (M.spec_l06Make a0 a0 s1.1 s7.1).bind fun v13 =>
          some v13) fuel (([] : List Int), 0)) fuel (([] : List Int), 0)

def M.impl_numbers (a0 : Int) : Option (List Int) :=
  chk ((0 : Int) ≤ a0 ∧ a0 ≤ (lim : Int)) (
    iter (fun (s2 : (List Int) × Int) next3 =>
      if decide (s2.2 < ((List.replicate a0.toNat (0 : Int)).length : Int)) then
        (idx s2.1 s2.2).bind fun _ =>
        next3 (s2.1.set s2.2.toNat s2.2, IntKind.i64.wrap (s2.2 + 1))
      else
        some s2.1) fuel ((List.replicate a0.toNat (0 : Int)), 0))

def M.impl_identity (a0 : XCategory) : Option XFunctor :=
  (M.impl_numbers a0.Objects).bind fun v1 =>
  (M.impl_Category_arrows a0).bind fun v2 =>
  (M.impl_numbers v2).bind fun v3 =>
  (M.impl_functor a0 a0 v1 v3).bind fun v4 =>
  some v4

def M.spec_l02Hom (a0 : XCategory) (a1 : Int) (a2 : Int) : Option (List Int) :=
  iter (fun (s1 : (List Int) × Int) next2 =>
    if decide (s1.2 < (a0.From.length : Int)) then
      (idx a0.From s1.2).bind fun y6 =>
      if y6 == a1 then
        (idx a0.To s1.2).bind fun y8 =>
        if y8 == a2 then
          chk (s1.1.length + (([s1.2] : List Int).length) ≤ lim) (
            next2 (s1.1 ++ ([s1.2] : List Int), IntKind.i64.wrap (s1.2 + 1)))
        else
          next2 (s1.1, IntKind.i64.wrap (s1.2 + 1))
      else
        next2 (s1.1, IntKind.i64.wrap (s1.2 + 1))
    else
      some s1.1) fuel (([] : List Int), 0)

def M.spec_l01Index (a0 : List Int) (a1 : Int) : Option Int :=
  iter (fun (s1 : Int) next2 =>
    if decide (s1 < (a0.length : Int)) then
      (idx a0 s1).bind fun y6 =>
      if y6 == a1 then
        some s1
      else
        next2 (IntKind.i64.wrap (s1 + 1))
    else
      some (-1)) fuel 0

def M.spec_l02Then (a0 : XCategory) (a1 : Int) (a2 : Int) : Option Int :=
  (idx a0.Composites a1).bind fun y1 =>
  (idx y1 a2).bind fun y2 =>
  some y2

def M.impl_Category_hom (a0 : XCategory) (a1 : Int) (a2 : Int) : Option (List Int) :=
  iter (fun (s1 : (List Int) × Int) next2 =>
    if decide (s1.2 < (a0.From.length : Int)) then
      (idx a0.From s1.2).bind fun y6 =>
      if y6 == a1 then
        (idx a0.To s1.2).bind fun y8 =>
        if y8 == a2 then
          chk (s1.1.length + (([s1.2] : List Int).length) ≤ lim) (
            next2 (s1.1 ++ ([s1.2] : List Int), IntKind.i64.wrap (s1.2 + 1)))
        else
          next2 (s1.1, IntKind.i64.wrap (s1.2 + 1))
      else
        next2 (s1.1, IntKind.i64.wrap (s1.2 + 1))
    else
      some s1.1) fuel (([] : List Int), 0)

def M.slices_Index_int64_int64 (a0 : List Int) (a1 : Int) : Option Int :=
  iter (fun (s1 : Int) next2 =>
    if decide (s1 < (a0.length : Int)) then
      (idx a0 s1).bind fun y6 =>
      if a1 == y6 then
        some s1
      else
        next2 (IntKind.i64.wrap (s1 + 1))
    else
      some (-1)) fuel 0

def M.impl_index_int64 (a0 : List Int) (a1 : Int) : Option Int :=
  (M.slices_Index_int64_int64 a0 a1).bind fun v1 =>
  some v1

end Go.Gx
