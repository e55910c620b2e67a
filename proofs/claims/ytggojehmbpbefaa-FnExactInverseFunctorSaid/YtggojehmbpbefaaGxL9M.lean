/- Models of the functions. Printed by wip/gen. -/
import Derived.Test.YtggojehmbpbefaaGxBM
import Derived.Test.YtggojehmbpbefaaGxIp
import Derived.Test.YtggojehmbpbefaaGxAb
namespace Go.Gx

def M.spec_l01Has (a0 : List Int) (a1 : Int) : Option Bool :=
  iter (fun (s1 : Int) next2 =>
    if decide (s1 < (a0.length : Int)) then
      (idx a0 s1).bind fun y6 =>
      if y6 == a1 then
        some true
      else
        next2 (IntKind.i64.wrap (s1 + 1))
    else
      some false) fuel 0

def M.spec_l01Image (a0 : Int) (a1 : List Int) : Option (List Int) :=
  iter (fun (s1 : (List Int) × Int) next2 =>
    if decide (s1.2 < a0) then
      (M.spec_l01Has a1 s1.2).bind fun v6 =>
      if v6 then
        chk (s1.1.length + (([s1.2] : List Int).length) ≤ lim) (
          next2 (s1.1 ++ ([s1.2] : List Int), IntKind.i64.wrap (s1.2 + 1)))
      else
        next2 (s1.1, IntKind.i64.wrap (s1.2 + 1))
    else
      some s1.1) fuel (([] : List Int), 0)

def M.spec_l06Bijective (a0 : Int) (a1 : List Int) : Option Bool :=
  if (a1.length : Int) == a0 then
    (M.spec_l01Image a0 a1).bind fun v2 =>
    some ((v2.length : Int) == (a1.length : Int))
  else
    some false

def M.spec_l06Iso (a0 : XFunctor) : Option Bool :=
  (M.spec_l06Bijective a0.Target.Objects a0.Objects).bind fun v1 =>
  if v1 then
    (M.spec_l06Bijective (a0.Target.From.length : Int) a0.Arrows).bind fun v3 =>
    some v3
  else
    some false

def M.spec_l06Back (a0 : List Int) : Option (List Int) :=
  chk ((0 : Int) ≤ (a0.length : Int) ∧ (a0.length : Int) ≤ (lim : Int)) (
    iter (fun (s2 : (List Int) × Int) next3 =>
      if decide (s2.2 < (a0.length : Int)) then
        (idx a0 s2.2).bind fun y7 =>
        (idx s2.1 y7).bind fun _ =>
        next3 (s2.1.set y7.toNat s2.2, IntKind.i64.wrap (s2.2 + 1))
      else
        some s2.1) fuel ((List.replicate (a0.length : Int).toNat (0 : Int)), 0))

def M.spec_InverseFunctor (a0 : XFunctor) : Option (XFunctor × Int) :=
  (M.spec_l06Is a0).bind fun v1 =>
  if v1 then
    (M.spec_l06Iso a0).bind fun v3 =>
    if v3 then
      (M.spec_l06Back a0.Objects).bind fun v5 =>
      (M.spec_l06Back a0.Arrows).bind fun v6 =>
      (M.spec_l06Make a0.Target a0.Source v5 v6).bind fun v7 =>
      some (v7, 0)
    else
      some ((⟨(⟨0, [], [], [], []⟩ : XCategory), (⟨0, [], [], [], []⟩ : XCategory), [], []⟩ : XFunctor), 4)
  else
    some ((⟨(⟨0, [], [], [], []⟩ : XCategory), (⟨0, [], [], [], []⟩ : XCategory), [], []⟩ : XFunctor), 1)

def M.impl_marked (a0 : List Bool) : Option (List Int) :=
  iter (fun (s1 : (List Int) × Int) next2 =>
    if decide (s1.2 < (a0.length : Int)) then
      (idx a0 s1.2).bind fun y6 =>
      if y6 then
        chk (s1.1.length + (([s1.2] : List Int).length) ≤ lim) (
          next2 (s1.1 ++ ([s1.2] : List Int), IntKind.i64.wrap (s1.2 + 1)))
      else
        next2 (s1.1, IntKind.i64.wrap (s1.2 + 1))
    else
      some s1.1) fuel (([] : List Int), 0)

def M.impl_image (a0 : Int) (a1 : List Int) : Option (List Int) :=
  chk ((0 : Int) ≤ a0 ∧ a0 ≤ (lim : Int)) (
    iter (fun (s2 : (List Bool) × Int) next3 =>
      if decide (s2.2 < (a1.length : Int)) then
        (idx a1 s2.2).bind fun y7 =>
        (idx s2.1 y7).bind fun _ =>
        next3 (s2.1.set y7.toNat true, IntKind.i64.wrap (s2.2 + 1))
      else
        (M.impl_marked s2.1).bind fun v9 =>
        some v9) fuel ((List.replicate a0.toNat (false : Bool)), 0))

def M.impl_isBijective (a0 : List Int) (a1 : Int) : Option Bool :=
  if (a0.length : Int) == a1 then
    (M.impl_within a0 a1).bind fun v2 =>
    if v2 then
      (M.impl_image a1 a0).bind fun v4 =>
      some ((v4.length : Int) == a1)
    else
      some false
  else
    some false

def M.impl_Functor_isIsomorphism (a0 : XFunctor) : Option Bool :=
  (M.impl_isBijective a0.Objects a0.Target.Objects).bind fun v1 =>
  if v1 then
    (M.impl_Category_arrows a0.Target).bind fun v3 =>
    (M.impl_isBijective a0.Arrows v3).bind fun v4 =>
    some v4
  else
    some false

def M.impl_backwards (a0 : List Int) : Option (List Int) :=
  chk ((0 : Int) ≤ (a0.length : Int) ∧ (a0.length : Int) ≤ (lim : Int)) (
    iter (fun (s2 : (List Int) × Int) next3 =>
      if decide (s2.2 < (a0.length : Int)) then
        (idx a0 s2.2).bind fun y7 =>
        (idx s2.1 y7).bind fun _ =>
        next3 (s2.1.set y7.toNat s2.2, IntKind.i64.wrap (s2.2 + 1))
      else
        some s2.1) fuel ((List.replicate (a0.length : Int).toNat (0 : Int)), 0))

def M.impl_InverseFunctor (a0 : XFunctor) : Option (XFunctor × Int) :=
  (M.impl_Functor_isFunctor a0).bind fun v1 =>
  if v1 then
    (M.impl_Functor_isIsomorphism a0).bind fun v3 =>
    if v3 then
      (M.impl_backwards a0.Objects).bind fun v5 =>
      (M.impl_backwards a0.Arrows).bind fun v6 =>
      (M.impl_functor a0.Target a0.Source v5 v6).bind fun v7 =>
      some (v7, 0)
    else
      some ((⟨(⟨0, [], [], [], []⟩ : XCategory), (⟨0, [], [], [], []⟩ : XCategory), [], []⟩ : XFunctor), 4)
  else
    some ((⟨(⟨0, [], [], [], []⟩ : XCategory), (⟨0, [], [], [], []⟩ : XCategory), [], []⟩ : XFunctor), 1)

def M.laws_FnExactInverseFunctor (a0 : XFunctor) : Option Bool :=
  (M.laws_szFunctor a0 1048576).bind fun v1 =>
  if decide (v1 < 0) then
    some true
  else
    (M.laws_toFunctor a0).bind fun v3 =>
    (M.spec_InverseFunctor v3).bind fun v4 =>
    (M.impl_InverseFunctor v3).bind fun v5 =>
    (M.laws_eqFunctor v5.1 v4.1).bind fun v6 =>
    if v6 then
      if v5.2 != v4.2 then
        some false
      else
        (M.laws_eqFunctor v3 v3).bind fun v9 =>
        if v9 then
          (M.laws_markFunctor v3 1).bind fun v11 =>
          if decide (v11.1 < 0) then
            some false
          else
            (M.laws_markFunctor v5.1 1).bind fun v13 =>
            (M.laws_heldFunctor v13.2 1).bind fun v14 =>
            if decide (v14 < 0) then
              some false
            else
              if v14 != v13.1 then
                some false
              else
                some true
        else
          some false
    else
      some false

end Go.Gx
