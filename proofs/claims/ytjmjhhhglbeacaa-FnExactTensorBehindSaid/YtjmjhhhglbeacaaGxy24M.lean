/- Models of the functions. Printed by wip/gen. -/
import Derived.Test.YtjmjhhhglbeacaaGxyCM
import Derived.Test.YtjmjhhhglbeacaaGxE1
namespace Go.Gx

def M.spec_TensorBehind (a0 : XMonoidal) (a1 : Int) : Option (XFunctor × Int) :=
  (M.spec_l35Objects a0 ([a1] : List Int)).bind fun v1 =>
  if v1 != 0 then
    some ((⟨(⟨0, [], [], [], []⟩ : XCategory), (⟨0, [], [], [], []⟩ : XCategory), [], []⟩ : XFunctor), v1)
  else
    (M.spec_l35Behind a0 a1).bind fun v3 =>
    some (v3, 0)

def M.impl_TensorBehind (a0 : XMonoidal) (a1 : Int) : Option (XFunctor × Int) :=
  (M.impl_monoidalCode a0 ([a1] : List Int)).bind fun v1 =>
  if v1 != 0 then
    some ((⟨(⟨0, [], [], [], []⟩ : XCategory), (⟨0, [], [], [], []⟩ : XCategory), [], []⟩ : XFunctor), v1)
  else
    (M.impl_Monoidal_behind a0 a1).bind fun v3 =>
    some (v3, 0)

def M.laws_markMonoidal (a0 : XMonoidal) (a1 : Int) : Option (Int × XMonoidal) :=
  (M.laws_markCategory a0.On a1).bind fun v1 =>
  (M.laws_markInt64SS a0.Objects v1.1).bind fun v2 =>
  (M.laws_markInt64SS a0.Arrows v2.1).bind fun v3 =>
  some (v3.1, (⟨(⟨a0.On.Objects, v1.2.From, v1.2.To, v1.2.Identity, v1.2.Composites⟩ : XCategory), a0.Unit, v2.2, v3.2⟩ : XMonoidal))

def M.laws_FnExactTensorBehind (a0 : XMonoidal) (a1 : Int) : Option Bool :=
  (M.laws_szMonoidal a0 1048576).bind fun v1 =>
  if decide (v1 < 0) then
    some true
  else
    (M.laws_toMonoidal a0).bind fun v3 =>
    (M.spec_TensorBehind v3 a1).bind fun v4 =>
    (M.impl_TensorBehind v3 a1).bind fun v5 =>
    (M.laws_eqFunctor v5.1 v4.1).bind fun v6 =>
    if v6 then
      if v5.2 != v4.2 then
        some false
      else
        (M.laws_eqMonoidal v3 v3).bind fun v9 =>
        if v9 then
          (M.laws_markMonoidal v3 1).bind fun v11 =>
          if decide (v11.1 < 0) then
            some false
          else
            (M.laws_markFunctor v5.1 1).bind fun v13 =>
            (M.laws_heldFunctor v13.2 1).bind fun v14 =>
            if decide (v14 < 0) then
              some false
            else
              if v14 != v13.1 then
                some false
              else
                some true
        else
          some false
    else
      some false

end Go.Gx
