/- Models of the functions. Printed by wip/gen. -/
import Derived.Test.YtpfdieaiogfihaaGxwAM
import Derived.Test.YtpfdieaiogfihaaGxwOM
import Derived.Test.YtpfdieaiogfihaaGxE1
namespace Go.Gx

def M.spec_l15Ends (a0 : XAdjunction) (a1 : Int) (a2 : Int) (a3 : XCategory) (a4 : Int) : Option Int :=
  (M.spec_l02Object a0.Left.Source a1).bind fun v1 =>
  if v1 then
    (M.spec_l02Object a0.Left.Target a2).bind fun v3 =>
    if v3 then
      (M.spec_l02Arrow a3 a4).bind fun v5 =>
      if v5 then
        some 0
      else
        some 2
    else
      some 2
  else
    some 2

def M.impl_Adjunction_objectsCode (a0 : XAdjunction) (a1 : Int) (a2 : Int) : Option Int :=
  (M.impl_Adjunction_isAdjunction a0).bind fun v1 =>
  if v1 then
    (M.impl_inRange a1 0 (IntKind.i64.wrap (a0.Left.Source.Objects - 1))).bind fun v3 =>
    if v3 then
      (M.impl_inRange a2 0 (IntKind.i64.wrap (a0.Left.Target.Objects - 1))).bind fun v5 =>
      if v5 then
        some 0
      else
        some 2
    else
      some 2
  else
    some 1

def M.impl_Adjunction_transposed (a0 : XAdjunction) (a1 : Int) (a2 : Int) (a3 : Int) (a4 : XCategory) (a5 : Xends) (a6 : Int) (a7 : Int → Int → Option Int) : Option (Int × Int) :=
  (M.impl_Category_arrows a4).bind fun v1 =>
  (M.impl_inRange a3 0 (IntKind.i64.wrap (v1 - 1))).bind fun v2 =>
  if v2 then
    (M.impl_Category_ends a4 a3).bind fun v4 =>
    if ((v4.from_ == a5.from_) && (v4.to_ == a5.to_)) == false then
      some (0, 5)
    else
      (a7 a6 a3).bind fun v6 =>
      some (v6, 0)
  else
    some (0, 2)

end Go.Gx
