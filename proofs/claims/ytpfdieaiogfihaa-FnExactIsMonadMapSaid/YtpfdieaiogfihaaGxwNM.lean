/- Models of the functions. Printed by wip/gen. -/
import Derived.Test.YtpfdieaiogfihaaGxL8M
import Derived.Test.YtpfdieaiogfihaaGxNuM
import Derived.Test.YtpfdieaiogfihaaGxE1
namespace Go.Gx

def M.spec_l02Unit (a0 : XCategory) (a1 : Int) : Option Bool :=
  (idx a0.From a1).bind fun y1 =>
  (idx a0.Identity y1).bind fun y2 =>
  some (y2 == a1)

def M.spec_l15Natural (a0 : XFunctor) (a1 : XFunctor) (a2 : List Int) : Option Bool :=
  if (a2.length : Int) != (a0.Objects.length : Int) then
    some false
  else
    (M.spec_l01Map (a0.Target.From.length : Int) a2).bind fun v2 =>
    if v2 then
      iter (fun (s4 : Int) next5 =>
        if decide (s4 < (a2.length : Int)) then
          (idx a2 s4).bind fun y9 =>
          (idx a0.Target.From y9).bind fun y10 =>
          (idx a0.Objects s4).bind fun y11 =>
          if y10 != y11 then
            some false
          else
            (idx a0.Target.To y9).bind fun y13 =>
            (idx a1.Objects s4).bind fun y14 =>
            if y13 != y14 then
              some false
            else
              next5 (IntKind.i64.wrap (s4 + 1))
        else
          iter (fun (s16 : Int) next17 =>
            if decide (s16 < (a0.Source.From.length : Int)) then
              (idx a0.Arrows s16).bind fun y21 =>
              (idx a0.Source.To s16).bind fun y22 =>
              (idx a2 y22).bind fun y23 =>
              (M.spec_l02Then a0.Target y21 y23).bind fun v24 =>
              (idx a0.Source.From s16).bind fun y25 =>
              (idx a2 y25).bind fun y26 =>
              (idx a1.Arrows s16).bind fun y27 =>
              (M.spec_l02Then a0.Target y26 y27).bind fun v28 =>
              if v24 != v28 then
                some false
              else
                next17 (IntKind.i64.wrap (s16 + 1))
            else
              some true) fuel 0) fuel 0
    else
      some false

end Go.Gx
