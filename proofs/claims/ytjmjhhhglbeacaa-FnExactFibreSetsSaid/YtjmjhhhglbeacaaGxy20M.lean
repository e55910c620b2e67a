/- Models of the functions. Printed by wip/gen. -/
import Derived.Test.YtjmjhhhglbeacaaGxyNM
import Derived.Test.YtjmjhhhglbeacaaGxL10M
import Derived.Test.YtjmjhhhglbeacaaGxE1
namespace Go.Gx

def M.spec_l34Lifts (a0 : XFunctor) (a1 : Int) (a2 : Int) : Option (List Int) :=
  iter (fun (s1 : (List Int) × Int) next2 =>
    if decide (s1.2 < (a0.Arrows.length : Int)) then
      (idx a0.Source.From s1.2).bind fun y6 =>
      if y6 == a1 then
        (idx a0.Arrows s1.2).bind fun y8 =>
        if y8 == a2 then
          chk (s1.1.length + (([s1.2] : List Int).length) ≤ lim) (
            next2 (s1.1 ++ ([s1.2] : List Int), IntKind.i64.wrap (s1.2 + 1)))
        else
          next2 (s1.1, IntKind.i64.wrap (s1.2 + 1))
      else
        next2 (s1.1, IntKind.i64.wrap (s1.2 + 1))
    else
      some s1.1) fuel (([] : List Int), 0)

def M.spec_l34Discrete (a0 : XFunctor) : Option Bool :=
  iter (fun (s1 : Int) next2 =>
    if decide (s1 < a0.Source.Objects) then
      iter (fun (s6 : Int) next7 =>
        if decide (s6 < (a0.Target.From.length : Int)) then
          (idx a0.Target.From s6).bind fun y11 =>
          (idx a0.Objects s1).bind fun y12 =>
          if y11 == y12 then
            (M.spec_l34Lifts a0 s1 s6).bind fun v14 =>
            if (v14.length : Int) != 1 then
              some false
            else
              next7 (IntKind.i64.wrap (s6 + 1))
          else
            next7 (IntKind.i64.wrap (s6 + 1))
        else
          next2 (IntKind.i64.wrap (s1 + 1))) fuel 0
    else
      some true) fuel 0

def M.spec_l34Over (a0 : XFunctor) (a1 : Int) : Option (List Int) :=
  iter (fun (s1 : (List Int) × Int) next2 =>
    if decide (s1.2 < (a0.Objects.length : Int)) then
      (idx a0.Objects s1.2).bind fun y6 =>
      if y6 == a1 then
        chk (s1.1.length + (([s1.2] : List Int).length) ≤ lim) (
          next2 (s1.1 ++ ([s1.2] : List Int), IntKind.i64.wrap (s1.2 + 1)))
      else
        next2 (s1.1, IntKind.i64.wrap (s1.2 + 1))
    else
      some s1.1) fuel (([] : List Int), 0)

def M.spec_l34Sets (a0 : XFunctor) : Option XSetFunctor :=
  (M.spec_l02Own a0.Target).bind fun v1 =>
  iter (fun (s2 : (List (List Int)) × (List Int) × Int) next3 =>
    if decide (s2.2.2 < a0.Target.Objects) then
      (M.spec_l34Over a0 s2.2.2).bind fun v7 =>
      chk (s2.1.length + 1 ≤ lim) (
        (idx (s2.1 ++ [v7]) s2.2.2).bind fun y9 =>
        chk (s2.2.1.length + (([(y9.length : Int)] : List Int).length) ≤ lim) (
          next3 (s2.1 ++ [v7], s2.2.1 ++ ([(y9.length : Int)] : List Int), IntKind.i64.wrap (s2.2.2 + 1))))
    else
      iter (fun (s11 : (List (List Int)) × Int) next12 =>
        if decide (s11.2 < (a0.Target.From.length : Int)) then
          (idx a0.Target.From s11.2).bind fun y16 =>
          (idx a0.Target.To s11.2).bind fun y17 =>
          iter (fun (s18 : (List Int) × Int) next19 =>
            (idx s2.1 y16).bind fun y22 =>
            if decide (s18.2 < (y22.length : Int)) then
              (idx s2.1 y17).bind fun y24 =>
              (idx y22 s18.2).bind fun y25 =>
              (M.spec_l34Lifts a0 y25 s11.2).bind fun v26 =>
              (idx v26 0).bind fun y27 =>
              (idx a0.Source.To y27).bind fun y28 =>
              (M.spec_l01Index y24 y28).bind fun v29 =>
              chk (s18.1.length + (([v29] : List Int).length) ≤ lim) (
                next19 (s18.1 ++ ([v29] : List Int), IntKind.i64.wrap (s18.2 + 1)))
            else
              chk (s11.1.length + 1 ≤ lim) (
                next12 (s11.1 ++ [s18.1], IntKind.i64.wrap (s11.2 + 1)))) fuel (([] : List Int), 0)
        else
          some (⟨v1, s2.2.1, s11.1⟩ : XSetFunctor)) fuel (([] : List (List Int)), 0)) fuel (([] : List (List Int)), ([] : List Int), 0)

def M.spec_FibreSets (a0 : XFunctor) : Option (XSetFunctor × Int) :=
  (M.spec_l06Is a0).bind fun v1 =>
  if v1 then
    (M.spec_l34Discrete a0).bind fun v3 =>
    if v3 then
      (M.spec_l34Sets a0).bind fun v5 =>
      some (v5, 0)
    else
      some ((⟨(⟨0, [], [], [], []⟩ : XCategory), [], []⟩ : XSetFunctor), 5)
  else
    some ((⟨(⟨0, [], [], [], []⟩ : XCategory), [], []⟩ : XSetFunctor), 1)

def M.impl_Functor_over (a0 : XFunctor) (a1 : Int) (a2 : Int) : Option (List Int) :=
  (M.impl_Category_outOf a0.Source a1).bind fun v1 =>
  iter (fun (s2 : (List Int) × Int) next3 =>
    if decide (s2.2 < (v1.length : Int)) then
      (idx v1 s2.2).bind fun y7 =>
      (idx a0.Arrows y7).bind fun y8 =>
      if y8 == a2 then
        chk (s2.1.length + (([y7] : List Int).length) ≤ lim) (
          next3 (s2.1 ++ ([y7] : List Int), IntKind.i64.wrap (s2.2 + 1)))
      else
        next3 (s2.1, IntKind.i64.wrap (s2.2 + 1))
    else
      some s2.1) fuel (([] : List Int), 0)

def M.impl_Functor_isDiscreteOpfibration (a0 : XFunctor) : Option Bool :=
  iter (fun (s1 : Int) next2 =>
    if decide (s1 < (a0.Objects.length : Int)) then
      (idx a0.Objects s1).bind fun y6 =>
      (M.impl_Category_outOf a0.Target y6).bind fun v7 =>
      iter (fun (s8 : Int) next9 =>
        if decide (s8 < (v7.length : Int)) then
          (idx v7 s8).bind fun y13 =>
          (M.impl_Functor_over a0 s1 y13).bind fun v14 =>
          if (v14.length : Int) != 1 then
            some false
          else
            next9 (IntKind.i64.wrap (s8 + 1))
        else
          next2 (IntKind.i64.wrap (s1 + 1))) fuel 0
    else
      some true) fuel 0

def M.impl_Functor_objectsOver (a0 : XFunctor) (a1 : Int) : Option (List Int) :=
  iter (fun (s1 : (List Int) × Int) next2 =>
    if decide (s1.2 < (a0.Objects.length : Int)) then
      (idx a0.Objects s1.2).bind fun y6 =>
      if y6 == a1 then
        chk (s1.1.length + (([s1.2] : List Int).length) ≤ lim) (
          next2 (s1.1 ++ ([s1.2] : List Int), IntKind.i64.wrap (s1.2 + 1)))
      else
        next2 (s1.1, IntKind.i64.wrap (s1.2 + 1))
    else
      some s1.1) fuel (([] : List Int), 0)

def M.impl_FibreSets (a0 : XFunctor) : Option (XSetFunctor × Int) :=
  (M.impl_Functor_isFunctor a0).bind fun v1 =>
  if v1 then
    (M.impl_Functor_isDiscreteOpfibration a0).bind fun v3 =>
    if v3 then
      (M.impl_Category_copy a0.Target).bind fun v5 =>
      iter (fun (s6 : (List Int) × Int) next7 =>
        if decide (s6.2 < a0.Target.Objects) then
          (M.impl_Functor_objectsOver a0 s6.2).bind fun v11 =>
          chk (s6.1.length + (([(v11.length : Int)] : List Int).length) ≤ lim) (
            next7 (s6.1 ++ ([(v11.length : Int)] : List Int), IntKind.i64.wrap (s6.2 + 1)))
        else
          iter (fun (s13 : (List (List Int)) × Int) next14 =>
            if decide (s13.2 < (a0.Target.From.length : Int)) then
              (idx a0.Target.To s13.2).bind fun y18 =>
              (M.impl_Functor_objectsOver a0 y18).bind fun v19 =>
              (idx a0.Target.From s13.2).bind fun y20 =>
              (M.impl_Functor_objectsOver a0 y20).bind fun v21 =>
              iter (fun (s22 : (List Int) × Int) next23 =>
                if decide (s22.2 < (v21.length : Int)) then
                  (idx v21 s22.2).bind fun y27 =>
                  (M.impl_Functor_over a0 y27 s13.2).bind fun v28 =>
                  (idx v28 0).bind fun y29 =>
                  (idx a0.Source.To y29).bind fun y30 =>
                  (M.impl_index_int64 v19 y30).bind fun v31 =>
                  chk (s22.1.length + (([v31] : List Int).length) ≤ lim) (
                    next23 (s22.1 ++ ([v31] : List Int), IntKind.i64.wrap (s22.2 + 1)))
                else
                  chk (s13.1.length + 1 ≤ lim) (
                    next14 (s13.1 ++ [s22.1], IntKind.i64.wrap (s13.2 + 1)))) fuel (([] : List Int), 0)
            else
              some ((⟨v5, s6.1, s13.1⟩ : XSetFunctor), 0)) fuel (([] : List (List Int)), 0)) fuel (([] : List Int), 0)
    else
      some ((⟨(⟨0, [], [], [], []⟩ : XCategory), [], []⟩ : XSetFunctor), 5)
  else
    some ((⟨(⟨0, [], [], [], []⟩ : XCategory), [], []⟩ : XSetFunctor), 1)

def M.laws_FnExactFibreSets (a0 : XFunctor) : Option Bool :=
  (M.laws_szFunctor a0 1048576).bind fun v1 =>
  if decide (v1 < 0) then
    some true
  else
    (M.laws_toFunctor a0).bind fun v3 =>
    (M.spec_FibreSets v3).bind fun v4 =>
    (M.impl_FibreSets v3).bind fun v5 =>
    (M.laws_eqSetFunctor v5.1 v4.1).bind fun v6 =>
    if v6 then
      if v5.2 != v4.2 then
        some false
      else
        (M.laws_eqFunctor v3 v3).bind fun v9 =>
        if v9 then
          (M.laws_markFunctor v3 1).bind fun v11 =>
          if decide (v11.1 < 0) then
            some false
          else
            (M.laws_markSetFunctor v5.1 1).bind fun v13 =>
            (M.laws_heldSetFunctor v13.2 1).bind fun v14 =>
            if decide (v14 < 0) then
              some false
            else
              if v14 != v13.1 then
                some false
              else
                some true
        else
          some false
    else
      some false

end Go.Gx
