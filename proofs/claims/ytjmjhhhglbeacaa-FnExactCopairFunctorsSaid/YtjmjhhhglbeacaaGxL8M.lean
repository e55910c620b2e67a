/- Models of the functions. Printed by wip/gen. -/
import Derived.Test.YtjmjhhhglbeacaaGxL6M
import Derived.Test.YtjmjhhhglbeacaaGxE1
namespace Go.Gx

def M.laws_szTransformation (a0 : XTransformation) (a1 : Int) : Option Int :=
  (M.laws_szFunctor a0.Source a1).bind fun v1 =>
  if decide (v1 < 0) then
    some (-1)
  else
    (M.laws_szFunctor a0.Target v1).bind fun v3 =>
    if decide (v3 < 0) then
      some (-1)
    else
      (M.laws_szInt64S a0.Components v3).bind fun v5 =>
      if decide (v5 < 0) then
        some (-1)
      else
        some v5

def M.spec_l01Same (a0 : List Int) (a1 : List Int) : Option Bool :=
  if (a0.length : Int) != (a1.length : Int) then
    some false
  else
    iter (fun (s2 : Int) next3 =>
      if decide (s2 < (a0.length : Int)) then
        (idx a0 s2).bind fun y7 =>
        (idx a1 s2).bind fun y8 =>
        if y7 != y8 then
          some false
        else
          next3 (IntKind.i64.wrap (s2 + 1))
      else
        some true) fuel 0

def M.spec_l01Same2 (a0 : List (List Int)) (a1 : List (List Int)) : Option Bool :=
  if (a0.length : Int) != (a1.length : Int) then
    some false
  else
    iter (fun (s2 : Int) next3 =>
      if decide (s2 < (a0.length : Int)) then
        (idx a0 s2).bind fun y7 =>
        (idx a1 s2).bind fun y8 =>
        (M.spec_l01Same y7 y8).bind fun v9 =>
        if v9 then
          next3 (IntKind.i64.wrap (s2 + 1))
        else
          some false
      else
        some true) fuel 0

def M.spec_l02Same (a0 : XCategory) (a1 : XCategory) : Option Bool :=
  if a0.Objects == a1.Objects then
    (M.spec_l01Same a0.From a1.From).bind fun v2 =>
    if v2 then
      (M.spec_l01Same a0.To a1.To).bind fun v4 =>
      if v4 then
        (M.spec_l01Same a0.Identity a1.Identity).bind fun v6 =>
        if v6 then
          (M.spec_l01Same2 a0.Composites a1.Composites).bind fun v8 =>
          some v8
        else
          some false
      else
        some false
    else
      some false
  else
    some false

def M.spec_l07Parallel (a0 : XFunctor) (a1 : XFunctor) : Option Bool :=
  (M.spec_l02Same a0.Source a1.Source).bind fun v1 =>
  if v1 then
    (M.spec_l02Same a0.Target a1.Target).bind fun v3 =>
    some v3
  else
    some false

def M.spec_l07Ends (a0 : XFunctor) (a1 : XFunctor) (a2 : List Int) : Option Bool :=
  if (a2.length : Int) != a0.Source.Objects then
    some false
  else
    (M.spec_l01Map (a0.Target.From.length : Int) a2).bind fun v2 =>
    if v2 then
      iter (fun (s4 : Int) next5 =>
        if decide (s4 < (a2.length : Int)) then
          (idx a2 s4).bind fun y9 =>
          (idx a0.Target.From y9).bind fun y10 =>
          (idx a0.Objects s4).bind fun y11 =>
          if y10 != y11 then
            some false
          else
            (idx a0.Target.To y9).bind fun y13 =>
            (idx a1.Objects s4).bind fun y14 =>
            if y13 != y14 then
              some false
            else
              next5 (IntKind.i64.wrap (s4 + 1))
        else
          some true) fuel 0
    else
      some false

def M.spec_l07Shape (a0 : XTransformation) : Option Bool :=
  (M.spec_l06Is a0.Source).bind fun v1 =>
  if v1 then
    (M.spec_l06Is a0.Target).bind fun v3 =>
    if v3 then
      (M.spec_l07Parallel a0.Source a0.Target).bind fun v5 =>
      if v5 then
        (M.spec_l07Ends a0.Source a0.Target a0.Components).bind fun v7 =>
        some v7
      else
        some false
    else
      some false
  else
    some false

def M.spec_l07Square (a0 : XFunctor) (a1 : XFunctor) (a2 : List Int) (a3 : Int) : Option Bool :=
  (idx a0.Arrows a3).bind fun y1 =>
  (idx a0.Target.Composites y1).bind fun y2 =>
  (idx a0.Source.To a3).bind fun y3 =>
  (idx a2 y3).bind fun y4 =>
  (idx y2 y4).bind fun y5 =>
  (idx a0.Source.From a3).bind fun y6 =>
  (idx a2 y6).bind fun y7 =>
  (idx a0.Target.Composites y7).bind fun y8 =>
  (idx a1.Arrows a3).bind fun y9 =>
  (idx y8 y9).bind fun y10 =>
  some (y5 == y10)

def M.spec_l07Fault (a0 : XFunctor) (a1 : XFunctor) (a2 : List Int) : Option Int :=
  iter (fun (s1 : Int) next2 =>
    if decide (s1 < (a0.Arrows.length : Int)) then
      (M.spec_l07Square a0 a1 a2 s1).bind fun v6 =>
      if v6 then
        next2 (IntKind.i64.wrap (s1 + 1))
      else
        some s1
    else
      some (-1)) fuel 0

def M.spec_l07Is (a0 : XTransformation) : Option Bool :=
  (M.spec_l07Shape a0).bind fun v1 =>
  if v1 then
    (M.spec_l07Fault a0.Source a0.Target a0.Components).bind fun v3 =>
    some (decide (v3 < 0))
  else
    some false

def M.spec_l06Then (a0 : XFunctor) (a1 : XFunctor) : Option XFunctor :=
  (M.spec_l01Then a0.Objects a1.Objects).bind fun v1 =>
  (M.spec_l01Then a0.Arrows a1.Arrows).bind fun v2 =>
  (M.spec_l06Make a0.Source a1.Target v1 v2).bind fun v3 =>
  some v3

def M.spec_l07Behind (a0 : XTransformation) (a1 : XFunctor) : Option XTransformation :=
  (M.spec_l06Then a0.Source a1).bind fun v1 =>
  (M.spec_l06Then a0.Target a1).bind fun v2 =>
  (M.spec_l01Then a0.Components a1.Arrows).bind fun v3 =>
  (M.spec_l07Make v1 v2 v3).bind fun v4 =>
  some v4

def M.spec_l07Before (a0 : XFunctor) (a1 : XTransformation) : Option XTransformation :=
  (M.spec_l06Then a0 a1.Source).bind fun v1 =>
  (M.spec_l06Then a0 a1.Target).bind fun v2 =>
  (M.spec_l01Then a0.Objects a1.Components).bind fun v3 =>
  (M.spec_l07Make v1 v2 v3).bind fun v4 =>
  some v4

def M.spec_l07Then (a0 : XCategory) (a1 : List Int) (a2 : List Int) : Option (List Int) :=
  iter (fun (s1 : (List Int) × Int) next2 =>
    if decide (s1.2 < (a1.length : Int)) then
      (idx a1 s1.2).bind fun y6 =>
      (idx a0.Composites y6).bind fun y7 =>
      (idx a2 s1.2).bind fun y8 =>
      (idx y7 y8).bind fun y9 =>
      chk (s1.1.length + (([y9] : List Int).length) ≤ lim) (
        next2 (s1.1 ++ ([y9] : List Int), IntKind.i64.wrap (s1.2 + 1)))
    else
      some s1.1) fuel (([] : List Int), 0)

def M.spec_HorizontalComposite (a0 : XTransformation) (a1 : XTransformation) : Option (XTransformation × Int) :=
  (M.spec_l07Is a0).bind fun v1 =>
  if v1 then
    (M.spec_l07Is a1).bind fun v3 =>
    if v3 then
      (M.spec_l02Same a0.Source.Target a1.Source.Source).bind fun v5 =>
      if v5 then
        (M.spec_l07Behind a0 a1.Source).bind fun v7 =>
        (M.spec_l07Before a0.Target a1).bind fun v8 =>
        (M.spec_l07Then a1.Source.Target v7.Components v8.Components).bind fun v9 =>
        (M.spec_l07Make v7.Source v8.Target v9).bind fun v10 =>
        some (v10, 0)
      else
        some ((⟨(⟨(⟨0, [], [], [], []⟩ : XCategory), (⟨0, [], [], [], []⟩ : XCategory), [], []⟩ : XFunctor), (⟨(⟨0, [], [], [], []⟩ : XCategory), (⟨0, [], [], [], []⟩ : XCategory), [], []⟩ : XFunctor), []⟩ : XTransformation), 5)
    else
      some ((⟨(⟨(⟨0, [], [], [], []⟩ : XCategory), (⟨0, [], [], [], []⟩ : XCategory), [], []⟩ : XFunctor), (⟨(⟨0, [], [], [], []⟩ : XCategory), (⟨0, [], [], [], []⟩ : XCategory), [], []⟩ : XFunctor), []⟩ : XTransformation), 1)
  else
    some ((⟨(⟨(⟨0, [], [], [], []⟩ : XCategory), (⟨0, [], [], [], []⟩ : XCategory), [], []⟩ : XFunctor), (⟨(⟨0, [], [], [], []⟩ : XCategory), (⟨0, [], [], [], []⟩ : XCategory), [], []⟩ : XFunctor), []⟩ : XTransformation), 1)

def M.laws_toTransformation (a0 : XTransformation) : Option XTransformation :=
  (M.laws_toFunctor a0.Source).bind fun v1 =>
  (M.laws_toFunctor a0.Target).bind fun v2 =>
  (M.laws_toInt64S a0.Components).bind fun v3 =>
  some (⟨v1, v2, v3⟩ : XTransformation)

def M.impl_areFunctors (a0 : List XFunctor) : Option Bool :=
  iter (fun (s1 : Int) next2 =>
    if decide (s1 < (a0.length : Int)) then
      (idx a0 s1).bind fun y6 =>
      (M.impl_Functor_isFunctor y6).bind fun v7 =>
      if v7 then
        next2 (IntKind.i64.wrap (s1 + 1))
      else
        some false
    else
      some true) fuel 0

def M.impl_compare (a0 : List Int) (a1 : List Int) : Option Int :=
  iter (fun (s1 : Int) next2 =>
    if decide (s1 < (a0.length : Int)) then
      if s1 == (a1.length : Int) then
        some 1
      else
        (idx a0 s1).bind fun y7 =>
        (idx a1 s1).bind fun y8 =>
        if y7 != y8 then
          if decide (y7 < y8) then
            some (-1)
          else
            some 1
        else
          next2 (IntKind.i64.wrap (s1 + 1))
    else
      if decide ((a0.length : Int) < (a1.length : Int)) then
        some (-1)
      else
        some 0) fuel 0

def M.impl_same (a0 : List Int) (a1 : List Int) : Option Bool :=
  (M.impl_compare a0 a1).bind fun v1 =>
  some (v1 == 0)

def M.impl_sameCategory (a0 : XCategory) (a1 : XCategory) : Option Bool :=
  if a0.Objects != a1.Objects then
    some false
  else
    (M.impl_same a0.From a1.From).bind fun v2 =>
    if v2 then
      (M.impl_same a0.To a1.To).bind fun v4 =>
      if v4 then
        (M.impl_same a0.Identity a1.Identity).bind fun v6 =>
        if v6 then
          if (a0.Composites.length : Int) != (a1.Composites.length : Int) then
            some false
          else
            iter (fun (s9 : Int) next10 =>
              if decide (s9 < (a0.Composites.length : Int)) then
                (idx a0.Composites s9).bind fun y14 =>
                (idx a1.Composites s9).bind fun y15 =>
                (M.impl_same y14 y15).bind fun v16 =>
                if v16 then
                  next10 (IntKind.i64.wrap (s9 + 1))
                else
                  some false
              else
                some true) fuel 0
        else
          some false
      else
        some false
    else
      some false

def M.impl_parallelFunctors (a0 : XFunctor) (a1 : XFunctor) : Option Bool :=
  (M.impl_sameCategory a0.Source a1.Source).bind fun v1 =>
  if v1 then
    (M.impl_sameCategory a0.Target a1.Target).bind fun v3 =>
    some v3
  else
    some false

def M.impl_Transformation_isShape (a0 : XTransformation) : Option Bool :=
  (M.impl_areFunctors ([a0.Source, a0.Target] : List XFunctor)).bind fun v1 =>
  if v1 then
    (M.impl_parallelFunctors a0.Source a0.Target).bind fun v3 =>
    if v3 then
      if (a0.Components.length : Int) != a0.Source.Source.Objects then
        some false
      else
        (M.impl_Category_arrows a0.Source.Target).bind fun v6 =>
        (M.impl_within a0.Components v6).bind fun v7 =>
        if v7 then
          iter (fun (s9 : Int) next10 =>
            if decide (s9 < (a0.Components.length : Int)) then
              (idx a0.Components s9).bind fun y14 =>
              (M.impl_Category_ends a0.Source.Target y14).bind fun v15 =>
              (idx a0.Source.Objects s9).bind fun y16 =>
              (idx a0.Target.Objects s9).bind fun y17 =>
              if ((v15.from_ == y16) && (v15.to_ == y17)) == false then
                some false
              else
                next10 (IntKind.i64.wrap (s9 + 1))
            else
              some true) fuel 0
        else
          some false
    else
      some false
  else
    some false

def M.impl_firstFailure (a0 : XTransformation) (a1 : XFunctor → XFunctor → (List Int) → Int → Option Bool) : Option Int :=
  iter (fun (s1 : Int) next2 =>
    if decide (s1 < (a0.Source.Arrows.length : Int)) then
      (a1 a0.Source a0.Target a0.Components s1).bind fun v6 =>
      if v6 then
        next2 (IntKind.i64.wrap (s1 + 1))
      else
        some s1
    else
      some (-1)) fuel 0

def M.impl_commutes (a0 : XFunctor) (a1 : XFunctor) (a2 : List Int) (a3 : Int) : Option Bool :=
  (idx a0.Arrows a3).bind fun y1 =>
  (idx a0.Source.To a3).bind fun y2 =>
  (idx a2 y2).bind fun y3 =>
  (M.impl_Category_then a0.Target y1 y3).bind fun v4 =>
  (idx a0.Source.From a3).bind fun y5 =>
  (idx a2 y5).bind fun y6 =>
  (idx a1.Arrows a3).bind fun y7 =>
  (M.impl_Category_then a0.Target y6 y7).bind fun v8 =>
  some (v4 == v8)

def M.impl_Transformation_isNatural (a0 : XTransformation) : Option Bool :=
  (M.impl_Transformation_isShape a0).bind fun v1 =>
  if v1 then
    (M.impl_firstFailure a0 (fun (x0 : XFunctor) (x1 : XFunctor) (x2 : List Int) (x3 : Int) => M.impl_commutes x0 x1 x2 x3)).bind fun v3 =>
    some (decide (v3 < 0))
  else
    some false

def M.impl_areNatural (a0 : List XTransformation) : Option Bool :=
  iter (fun (s1 : Int) next2 =>
    if decide (s1 < (a0.length : Int)) then
      (idx a0 s1).bind fun y6 =>
      (M.impl_Transformation_isNatural y6).bind fun v7 =>
      if v7 then
        next2 (IntKind.i64.wrap (s1 + 1))
      else
        some false
    else
      some true) fuel 0

def M.impl_Functor_then (a0 : XFunctor) (a1 : XFunctor) : Option XFunctor :=
  (M.impl_then a0.Objects a1.Objects).bind fun v1 =>
  (M.impl_then a0.Arrows a1.Arrows).bind fun v2 =>
  (M.impl_functor a0.Source a1.Target v1 v2).bind fun v3 =>
  some v3

def M.impl_Category_composed (a0 : XCategory) (a1 : List Int) (a2 : List Int) : Option (List Int) :=
  chk ((0 : Int) ≤ (a1.length : Int) ∧ (a1.length : Int) ≤ (lim : Int)) (
    iter (fun (s2 : (List Int) × Int) next3 =>
      if decide (s2.2 < (a1.length : Int)) then
        (idx a1 s2.2).bind fun y7 =>
        (idx a2 s2.2).bind fun y8 =>
        (M.impl_Category_then a0 y7 y8).bind fun v9 =>
        (idx s2.1 s2.2).bind fun _ =>
        next3 (s2.1.set s2.2.toNat v9, IntKind.i64.wrap (s2.2 + 1))
      else
        some s2.1) fuel ((List.replicate (a1.length : Int).toNat (0 : Int)), 0))

def M.impl_HorizontalComposite (a0 : XTransformation) (a1 : XTransformation) : Option (XTransformation × Int) :=
  (M.impl_areNatural ([a0, a1] : List XTransformation)).bind fun v1 =>
  if v1 then
    (M.impl_sameCategory a0.Source.Target a1.Source.Source).bind fun v3 =>
    if v3 then
      (M.impl_Functor_then a0.Source a1.Source).bind fun v5 =>
      (M.impl_Functor_then a0.Target a1.Target).bind fun v6 =>
      (M.impl_then a0.Components a1.Source.Arrows).bind fun v7 =>
      (M.impl_then a0.Target.Objects a1.Components).bind fun v8 =>
      (M.impl_Category_composed a1.Source.Target v7 v8).bind fun v9 =>
      (M.impl_transformation v5 v6 v9).bind fun v10 =>
      some (v10, 0)
    else
      some ((⟨(⟨(⟨0, [], [], [], []⟩ : XCategory), (⟨0, [], [], [], []⟩ : XCategory), [], []⟩ : XFunctor), (⟨(⟨0, [], [], [], []⟩ : XCategory), (⟨0, [], [], [], []⟩ : XCategory), [], []⟩ : XFunctor), []⟩ : XTransformation), 5)
  else
    some ((⟨(⟨(⟨0, [], [], [], []⟩ : XCategory), (⟨0, [], [], [], []⟩ : XCategory), [], []⟩ : XFunctor), (⟨(⟨0, [], [], [], []⟩ : XCategory), (⟨0, [], [], [], []⟩ : XCategory), [], []⟩ : XFunctor), []⟩ : XTransformation), 1)

def M.laws_FnExactHorizontalComposite (a0 : XTransformation) (a1 : XTransformation) : Option Bool :=
  (M.laws_szTransformation a0 1048576).bind fun v1 =>
  if decide (v1 < 0) then
    some true
  else
    (M.laws_szTransformation a1 v1).bind fun v3 =>
    if decide (v3 < 0) then
      some true
    else
      (M.laws_toTransformation a0).bind fun v5 =>
      (M.laws_toTransformation a1).bind fun v6 =>
      (M.spec_HorizontalComposite v5 v6).bind fun v7 =>
      (M.impl_HorizontalComposite v5 v6).bind fun v8 =>
      (M.laws_eqTransformation v8.1 v7.1).bind fun v9 =>
      if v9 then
        if v8.2 != v7.2 then
          some false
        else
          (M.laws_eqTransformation v5 v5).bind fun v12 =>
          if v12 then
            (M.laws_eqTransformation v6 v6).bind fun v14 =>
            if v14 then
              (M.laws_markTransformation v5 1).bind fun v16 =>
              (M.laws_markTransformation v6 v16.1).bind fun v17 =>
              if decide (v17.1 < 0) then
                some false
              else
                (M.laws_markTransformation v8.1 1).bind fun v19 =>
                (M.laws_heldTransformation v19.2 1).bind fun v20 =>
                if decide (v20 < 0) then
                  some false
                else
                  if v20 != v19.1 then
                    some false
                  else
                    some true
            else
              some false
          else
            some false
      else
        some false

end Go.Gx
