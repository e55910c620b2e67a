/- Models of the functions. Printed by wip/gen. -/
import Derived.Test.YtjmjhhhglbeacaaGxL10M
import Derived.Test.YtjmjhhhglbeacaaGxL8M
import Derived.Test.YtjmjhhhglbeacaaGxE1
namespace Go.Gx

def M.spec_l21Two (a0 : XSetFunctor) (a1 : XSetFunctor) : Option Int :=
  (M.spec_l19Is a0).bind fun v1 =>
  if v1 then
    (M.spec_l19Is a1).bind fun v3 =>
    if v3 then
      (M.spec_l02Same a0.Shape a1.Shape).bind fun v5 =>
      if v5 then
        some 0
      else
        some 5
    else
      some 1
  else
    some 1

def M.spec_l21Sum (a0 : XSetFunctor) (a1 : XSetFunctor) : Option (XSetFunctor × (List (List Int)) × (List (List Int))) :=
  (M.spec_l02Own a0.Shape).bind fun v1 =>
  iter (fun (s2 : (List (List Int)) × (List (List Int)) × (List Int) × Int) next3 =>
    if decide (s2.2.2.2 < (a0.Sizes.length : Int)) then
      iter (fun (s7 : (List Int) × Int) next8 =>
        (idx a0.Sizes s2.2.2.2).bind fun y11 =>
        if decide (s7.2 < y11) then
          chk (s7.1.length + (([s7.2] : List Int).length) ≤ lim) (
            next8 (s7.1 ++ ([s7.2] : List Int), IntKind.i64.wrap (s7.2 + 1)))
        else
          iter (fun (s14 : (List Int) × Int) next15 =>
            (idx a1.Sizes s2.2.2.2).bind fun y18 =>
            if decide (s14.2 < y18) then
              chk (s14.1.length + (([IntKind.i64.wrap (y11 + s14.2)] : List Int).length) ≤ lim) (
                next15 (s14.1 ++ ([IntKind.i64.wrap (y11 + s14.2)] : List Int), IntKind.i64.wrap (s14.2 + 1)))
            else
              chk (s2.2.2.1.length + (([IntKind.i64.wrap (y11 + y18)] : List Int).length) ≤ lim) (
                chk (s2.1.length + 1 ≤ lim) (
                  chk (s2.2.1.length + 1 ≤ lim) (
                    next3 (s2.1 ++ [s7.1], s2.2.1 ++ [s14.1], s2.2.2.1 ++ ([IntKind.i64.wrap (y11 + y18)] : List Int), IntKind.i64.wrap (s2.2.2.2 + 1)))))) fuel (([] : List Int), 0)) fuel (([] : List Int), 0)
    else
      iter (fun (s24 : (List (List Int)) × Int) next25 =>
        if decide (s24.2 < (a0.Actions.length : Int)) then
          (idx a0.Shape.To s24.2).bind fun y29 =>
          (idx a0.Actions s24.2).bind fun y30 =>
          (M.spec_l01Own y30).bind fun v31 =>
          iter (fun (s32 : (List Int) × Int) next33 =>
            (idx a1.Actions s24.2).bind fun y36 =>
            if decide (s32.2 < (y36.length : Int)) then
              (idx a0.Sizes y29).bind fun y38 =>
              (idx y36 s32.2).bind fun y39 =>
              chk (s32.1.length + (([IntKind.i64.wrap (y38 + y39)] : List Int).length) ≤ lim) (
                next33 (s32.1 ++ ([IntKind.i64.wrap (y38 + y39)] : List Int), IntKind.i64.wrap (s32.2 + 1)))
            else
              chk (s24.1.length + 1 ≤ lim) (
                next25 (s24.1 ++ [s32.1], IntKind.i64.wrap (s24.2 + 1)))) fuel (v31, 0)
        else
          some ((⟨v1, s2.2.2.1, s24.1⟩ : XSetFunctor), s2.1, s2.2.1)) fuel (([] : List (List Int)), 0)) fuel (([] : List (List Int)), ([] : List (List Int)), ([] : List Int), 0)

def M.spec_l21Made (a0 : XSetFunctor) : Option Int :=
  iter (fun (s1 : Int) next2 =>
    if decide (s1 < (a0.Sizes.length : Int)) then
      (idx a0.Sizes s1).bind fun y6 =>
      if decide (y6 > 16) then
        some 3
      else
        next2 (IntKind.i64.wrap (s1 + 1))
    else
      some 0) fuel 0

def M.impl_fitting (a0 : List Int) : Option Bool :=
  (M.impl_within a0 17).bind fun v1 =>
  some v1

def M.impl_areSetFunctors (a0 : List XSetFunctor) : Option Bool :=
  iter (fun (s1 : Int) next2 =>
    if decide (s1 < (a0.length : Int)) then
      (idx a0 s1).bind fun y6 =>
      (M.impl_SetFunctor_isSetFunctor y6).bind fun v7 =>
      if v7 then
        next2 (IntKind.i64.wrap (s1 + 1))
      else
        some false
    else
      some true) fuel 0

def M.impl_setsCode (a0 : XSetFunctor) (a1 : XSetFunctor) : Option Int :=
  (M.impl_areSetFunctors ([a0, a1] : List XSetFunctor)).bind fun v1 =>
  if v1 then
    (M.impl_sameCategory a0.Shape a1.Shape).bind fun v3 =>
    if v3 then
      some 0
    else
      some 5
  else
    some 1

def M.impl_shifted (a0 : List Int) (a1 : Int) : Option (List Int) :=
  iter (fun (s1 : (List Int) × Int) next2 =>
    if decide (s1.2 < (a0.length : Int)) then
      (idx a0 s1.2).bind fun y6 =>
      chk (s1.1.length + (([IntKind.i64.wrap (y6 + a1)] : List Int).length) ≤ lim) (
        next2 (s1.1 ++ ([IntKind.i64.wrap (y6 + a1)] : List Int), IntKind.i64.wrap (s1.2 + 1)))
    else
      some s1.1) fuel (([] : List Int), 0)

def M.impl_sumSets (a0 : XSetFunctor) (a1 : XSetFunctor) : Option (XSetFunctor × (List (List Int)) × (List (List Int))) :=
  (M.impl_Category_copy a0.Shape).bind fun v1 =>
  iter (fun (s2 : (List (List Int)) × (List (List Int)) × (List Int) × Int) next3 =>
    if decide (s2.2.2.2 < (a0.Sizes.length : Int)) then
      (idx a0.Sizes s2.2.2.2).bind fun y7 =>
      (idx a1.Sizes s2.2.2.2).bind fun y8 =>
      chk (s2.2.2.1.length + (([IntKind.i64.wrap (y7 + y8)] : List Int).length) ≤ lim) (
        (M.impl_numbers y7).bind fun v10 =>
        chk (s2.1.length + 1 ≤ lim) (
          (M.impl_numbers y8).bind fun v12 =>
          (M.impl_shifted v12 y7).bind fun v13 =>
          chk (s2.2.1.length + 1 ≤ lim) (
            next3 (s2.1 ++ [v10], s2.2.1 ++ [v13], s2.2.2.1 ++ ([IntKind.i64.wrap (y7 + y8)] : List Int), IntKind.i64.wrap (s2.2.2.2 + 1)))))
    else
      iter (fun (s15 : (List (List Int)) × Int) next16 =>
        if decide (s15.2 < (a0.Actions.length : Int)) then
          (idx a0.Actions s15.2).bind fun y20 =>
          (M.impl_clone y20).bind fun v21 =>
          (idx a1.Actions s15.2).bind fun y22 =>
          (idx a0.Shape.To s15.2).bind fun y23 =>
          (idx a0.Sizes y23).bind fun y24 =>
          (M.impl_shifted y22 y24).bind fun v25 =>
          chk (v21.length + v25.length ≤ lim) (
            chk (s15.1.length + 1 ≤ lim) (
              next16 (s15.1 ++ [v21 ++ v25], IntKind.i64.wrap (s15.2 + 1))))
        else
          some ((⟨v1, s2.2.2.1, s15.1⟩ : XSetFunctor), s2.1, s2.2.1)) fuel (([] : List (List Int)), 0)) fuel (([] : List (List Int)), ([] : List (List Int)), ([] : List Int), 0)

def M.spec_SumSets (a0 : XSetFunctor) (a1 : XSetFunctor) : Option (XSetFunctor × (List (List Int)) × (List (List Int)) × Int) :=
  (M.spec_l21Two a0 a1).bind fun v1 =>
  if v1 != 0 then
    some ((⟨(⟨0, [], [], [], []⟩ : XCategory), [], []⟩ : XSetFunctor), ([] : List (List Int)), ([] : List (List Int)), v1)
  else
    (M.spec_l21Sum a0 a1).bind fun v3 =>
    (M.spec_l21Made v3.1).bind fun v4 =>
    if v4 != 0 then
      some ((⟨(⟨0, [], [], [], []⟩ : XCategory), [], []⟩ : XSetFunctor), ([] : List (List Int)), ([] : List (List Int)), 3)
    else
      some (v3.1, v3.2.1, v3.2.2, 0)

def M.impl_SumSets (a0 : XSetFunctor) (a1 : XSetFunctor) : Option (XSetFunctor × (List (List Int)) × (List (List Int)) × Int) :=
  (M.impl_setsCode a0 a1).bind fun v1 =>
  if v1 != 0 then
    some ((⟨(⟨0, [], [], [], []⟩ : XCategory), [], []⟩ : XSetFunctor), ([] : List (List Int)), ([] : List (List Int)), v1)
  else
    (M.impl_sumSets a0 a1).bind fun v3 =>
    (M.impl_fitting v3.1.Sizes).bind fun v4 =>
    if v4 then
      some (v3.1, v3.2.1, v3.2.2, 0)
    else
      some ((⟨(⟨0, [], [], [], []⟩ : XCategory), [], []⟩ : XSetFunctor), ([] : List (List Int)), ([] : List (List Int)), 3)

def M.laws_FnExactSumSets (a0 : XSetFunctor) (a1 : XSetFunctor) : Option Bool :=
  (M.laws_szSetFunctor a0 1048576).bind fun v1 =>
  if decide (v1 < 0) then
    some true
  else
    (M.laws_szSetFunctor a1 v1).bind fun v3 =>
    if decide (v3 < 0) then
      some true
    else
      (M.laws_toSetFunctor a0).bind fun v5 =>
      (M.laws_toSetFunctor a1).bind fun v6 =>
      (M.spec_SumSets v5 v6).bind fun v7 =>
      (M.impl_SumSets v5 v6).bind fun v8 =>
      (M.laws_eqSetFunctor v8.1 v7.1).bind fun v9 =>
      if v9 then
        (M.laws_eqInt64SS v8.2.1 v7.2.1).bind fun v11 =>
        if v11 then
          (M.laws_eqInt64SS v8.2.2.1 v7.2.2.1).bind fun v13 =>
          if v13 then
            if v8.2.2.2 != v7.2.2.2 then
              some false
            else
              (M.laws_eqSetFunctor v5 v5).bind fun v16 =>
              if v16 then
                (M.laws_eqSetFunctor v6 v6).bind fun v18 =>
                if v18 then
                  (M.laws_markSetFunctor v5 1).bind fun v20 =>
                  (M.laws_markSetFunctor v6 v20.1).bind fun v21 =>
                  if decide (v21.1 < 0) then
                    some false
                  else
                    (M.laws_markSetFunctor v8.1 1).bind fun v23 =>
                    (M.laws_markInt64SS v8.2.1 v23.1).bind fun v24 =>
                    (M.laws_markInt64SS v8.2.2.1 v24.1).bind fun v25 =>
                    (M.laws_heldSetFunctor v23.2 1).bind fun v26 =>
                    if decide (v26 < 0) then
                      some false
                    else
                      (M.laws_heldInt64SS v24.2 v26).bind fun v28 =>
                      if decide (v28 < 0) then
                        some false
                      else
                        (M.laws_heldInt64SS v25.2 v28).bind fun v30 =>
                        if decide (v30 < 0) then
                          some false
                        else
                          if v30 != v25.1 then
                            some false
                          else
                            some true
                else
                  some false
              else
                some false
          else
            some false
        else
          some false
      else
        some false

end Go.Gx
