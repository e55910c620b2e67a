/- Models of the functions. Printed by wip/gen. -/
import Derived.Test.YtjmjhhhglbeacaaGxBM
import Derived.Test.YtjmjhhhglbeacaaGxE1
namespace Go.Gx

def M.spec_l02Hom (a0 : XCategory) (a1 : Int) (a2 : Int) : Option (List Int) :=
  iter (fun (s1 : (List Int) × Int) next2 =>
    if decide (s1.2 < (a0.From.length : Int)) then
      (idx a0.From s1.2).bind fun y6 =>
      if y6 == a1 then
        (idx a0.To s1.2).bind fun y8 =>
        if y8 == a2 then
          chk (s1.1.length + (([s1.2] : List Int).length) ≤ lim) (
            next2 (s1.1 ++ ([s1.2] : List Int), IntKind.i64.wrap (s1.2 + 1)))
        else
          next2 (s1.1, IntKind.i64.wrap (s1.2 + 1))
      else
        next2 (s1.1, IntKind.i64.wrap (s1.2 + 1))
    else
      some s1.1) fuel (([] : List Int), 0)

def M.spec_l02Then (a0 : XCategory) (a1 : Int) (a2 : Int) : Option Int :=
  (idx a0.Composites a1).bind fun y1 =>
  (idx y1 a2).bind fun y2 =>
  some y2

def M.impl_Category_hom (a0 : XCategory) (a1 : Int) (a2 : Int) : Option (List Int) :=
  iter (fun (s1 : (List Int) × Int) next2 =>
    if decide (s1.2 < (a0.From.length : Int)) then
      (idx a0.From s1.2).bind fun y6 =>
      if y6 == a1 then
        (idx a0.To s1.2).bind fun y8 =>
        if y8 == a2 then
          chk (s1.1.length + (([s1.2] : List Int).length) ≤ lim) (
            next2 (s1.1 ++ ([s1.2] : List Int), IntKind.i64.wrap (s1.2 + 1)))
        else
          next2 (s1.1, IntKind.i64.wrap (s1.2 + 1))
      else
        next2 (s1.1, IntKind.i64.wrap (s1.2 + 1))
    else
      some s1.1) fuel (([] : List Int), 0)

end Go.Gx
