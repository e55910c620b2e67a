/- Models of the functions. Printed by wip/gen. -/
import Derived.Test.YtjmjhhhglbeacaaGxyMM
import Derived.Test.YtjmjhhhglbeacaaGxE1
namespace Go.Gx

def M.spec_l35Objects (a0 : XMonoidal) (a1 : List Int) : Option Int :=
  (M.spec_l35Is a0).bind fun v1 =>
  if v1 then
    (M.spec_l01Map a0.On.Objects a1).bind fun v3 =>
    if v3 then
      some 0
    else
      some 2
  else
    some 1

def M.impl_monoidalCode (a0 : XMonoidal) (a1 : List Int) : Option Int :=
  (M.impl_Monoidal_isMonoidal a0).bind fun v1 =>
  if v1 then
    (M.impl_within a1 a0.On.Objects).bind fun v3 =>
    if v3 then
      some 0
    else
      some 2
  else
    some 1

end Go.Gx
