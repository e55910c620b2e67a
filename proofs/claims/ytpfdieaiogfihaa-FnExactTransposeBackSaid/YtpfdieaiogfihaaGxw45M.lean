/- Models of the functions. Printed by wip/gen. -/
import Derived.Test.YtpfdieaiogfihaaGxwEM
import Derived.Test.YtpfdieaiogfihaaGxE1
namespace Go.Gx

def M.spec_l15Back (a0 : XAdjunction) (a1 : Int) (a2 : Int) : Option Int :=
  (idx a0.Left.Arrows a2).bind fun y1 =>
  (idx a0.Counit a1).bind fun y2 =>
  (M.spec_l02Then a0.Left.Target y1 y2).bind fun v3 =>
  some v3

def M.spec_TransposeBack (a0 : XAdjunction) (a1 : Int) (a2 : Int) (a3 : Int) : Option (Int × Int) :=
  (M.spec_l15Is a0).bind fun v1 =>
  if v1 then
    (M.spec_l15Ends a0 a1 a2 a0.Left.Source a3).bind fun v3 =>
    if v3 != 0 then
      some (0, v3)
    else
      (idx a0.Left.Source.From a3).bind fun y5 =>
      if y5 != a1 then
        some (0, 5)
      else
        (idx a0.Left.Source.To a3).bind fun y7 =>
        (idx a0.Right.Objects a2).bind fun y8 =>
        if y7 != y8 then
          some (0, 5)
        else
          (M.spec_l15Back a0 a2 a3).bind fun v10 =>
          some (v10, 0)
  else
    some (0, 1)

def M.impl_Adjunction_transposeBack (a0 : XAdjunction) (a1 : Int) (a2 : Int) : Option Int :=
  (idx a0.Left.Arrows a2).bind fun y1 =>
  (idx a0.Counit a1).bind fun y2 =>
  (M.impl_Category_then a0.Left.Target y1 y2).bind fun v3 =>
  some v3

def M.impl_TransposeBack (a0 : XAdjunction) (a1 : Int) (a2 : Int) (a3 : Int) : Option (Int × Int) :=
  (M.impl_Adjunction_objectsCode a0 a1 a2).bind fun v1 =>
  if v1 != 0 then
    some (0, v1)
  else
    (idx a0.Right.Objects a2).bind fun y3 =>
    (M.impl_Adjunction_transposed a0 a1 a2 a3 a0.Left.Source (⟨a1, y3⟩ : Xends) a2 (fun (x0 : Int) (x1 : Int) => M.impl_Adjunction_transposeBack a0 x0 x1)).bind fun v4 =>
    some (v4.1, v4.2)

def M.laws_FnExactTransposeBack (a0 : XAdjunction) (a1 : Int) (a2 : Int) (a3 : Int) : Option Bool :=
  (M.laws_szAdjunction a0 1048576).bind fun v1 =>
  if decide (v1 < 0) then
    some true
  else
    (M.laws_toAdjunction a0).bind fun v3 =>
    (M.spec_TransposeBack v3 a1 a2 a3).bind fun v4 =>
    (M.impl_TransposeBack v3 a1 a2 a3).bind fun v5 =>
    if v5.1 != v4.1 then
      some false
    else
      if v5.2 != v4.2 then
        some false
      else
        (M.laws_eqAdjunction v3 v3).bind fun v8 =>
        if v8 then
          some true
        else
          some false

end Go.Gx
