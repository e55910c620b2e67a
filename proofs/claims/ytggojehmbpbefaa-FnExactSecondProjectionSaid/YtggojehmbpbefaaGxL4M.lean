/- Models of the functions. Printed by wip/gen. -/
import Derived.Test.YtggojehmbpbefaaGxL3M
import Derived.Test.YtggojehmbpbefaaGxIp
import Derived.Test.YtggojehmbpbefaaGxAb
namespace Go.Gx

def M.spec_SecondProjection (a0 : XCategory) (a1 : XCategory) : Option (XFunctor × Int) :=
  (M.spec_l06Project a0 a1 true).bind fun v1 =>
  some (v1.1, v1.2)

def M.impl_SecondProjection_1 (a0 : Int) (a1 : Int) : Option Int :=
  chk (a1 ≠ 0) (
    some (a0.tmod a1))

def M.impl_SecondProjection (a0 : XCategory) (a1 : XCategory) : Option (XFunctor × Int) :=
  (M.impl_projection a0 a1 a1 (fun (x0 : Int) (x1 : Int) => M.impl_SecondProjection_1 x0 x1)).bind fun v1 =>
  some (v1.1, v1.2)

def M.laws_FnExactSecondProjection (a0 : XCategory) (a1 : XCategory) : Option Bool :=
  (M.laws_szCategory a0 1048576).bind fun v1 =>
  if decide (v1 < 0) then
    some true
  else
    (M.laws_szCategory a1 v1).bind fun v3 =>
    if decide (v3 < 0) then
      some true
    else
      (M.laws_toCategory a0).bind fun v5 =>
      (M.laws_toCategory a1).bind fun v6 =>
      (M.spec_SecondProjection v5 v6).bind fun v7 =>
      (M.impl_SecondProjection v5 v6).bind fun v8 =>
      (M.laws_eqFunctor v8.1 v7.1).bind fun v9 =>
      if v9 then
        if v8.2 != v7.2 then
          some false
        else
          (M.laws_eqCategory v5 v5).bind fun v12 =>
          if v12 then
            (M.laws_eqCategory v6 v6).bind fun v14 =>
            if v14 then
              (M.laws_markCategory v5 1).bind fun v16 =>
              (M.laws_markCategory v6 v16.1).bind fun v17 =>
              if decide (v17.1 < 0) then
                some false
              else
                (M.laws_markFunctor v8.1 1).bind fun v19 =>
                (M.laws_heldFunctor v19.2 1).bind fun v20 =>
                if decide (v20 < 0) then
                  some false
                else
                  if v20 != v19.1 then
                    some false
                  else
                    some true
            else
              some false
          else
            some false
      else
        some false

end Go.Gx
