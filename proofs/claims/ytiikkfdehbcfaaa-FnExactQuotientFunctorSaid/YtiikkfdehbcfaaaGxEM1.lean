/- Laid together: part 1. -/
import Derived.Test.YtiikkfdehbcfaaaGxEM0
import Derived.Test.YtiikkfdehbcfaaaGxE1
/- Models of the functions. Printed by wip/gen. -/
namespace Go.Gx

def M.spec_l01Classes (a0 : List Int) : Option (List Int) :=
  iter (fun (s1 : (List Int) × (List Int) × Int) next2 =>
    if decide (s1.2.2 < (a0.length : Int)) then
      (idx a0 s1.2.2).bind fun y6 =>
      (M.spec_l01Index s1.2.1 y6).bind fun v7 =>
      if decide (v7 < 0) then
        chk (s1.2.1.length + (([y6] : List Int).length) ≤ lim) (
          chk (s1.1.length + (([(s1.2.1.length : Int)] : List Int).length) ≤ lim) (
            next2 (s1.1 ++ ([(s1.2.1.length : Int)] : List Int), s1.2.1 ++ ([y6] : List Int), IntKind.i64.wrap (s1.2.2 + 1))))
      else
        chk (s1.1.length + (([v7] : List Int).length) ≤ lim) (
          next2 (s1.1 ++ ([v7] : List Int), s1.2.1, IntKind.i64.wrap (s1.2.2 + 1)))
    else
      some s1.1) fuel (([] : List Int), ([] : List Int), 0)

def M.impl_partition_classes (a0 : List Int) : Option Int :=
  iter (fun (s1 : Int × Int) next2 =>
    if decide (s1.2 < (a0.length : Int)) then
      (idx a0 s1.2).bind fun y6 =>
      next2 (if (IntKind.i64.wrap (y6 + 1)) > s1.1 then (IntKind.i64.wrap (y6 + 1)) else s1.1, IntKind.i64.wrap (s1.2 + 1))
    else
      some s1.1) fuel (0, 0)

end Go.Gx

/- Models of the functions. Printed by wip/gen. -/
namespace Go.Gx

def M.spec_l01Join (a0 : Int) (a1 : List (List Int)) : Option (List Int) :=
  iter (fun (s1 : (List Int) × Int) next2 =>
    if decide (s1.2 < a0) then
      chk (s1.1.length + (([s1.2] : List Int).length) ≤ lim) (
        next2 (s1.1 ++ ([s1.2] : List Int), IntKind.i64.wrap (s1.2 + 1)))
    else
      iter (fun (s7 : (List Int) × Int) next8 =>
        if decide (s7.2 < (a1.length : Int)) then
          (idx a1 s7.2).bind fun y12 =>
          (idx y12 0).bind fun y13 =>
          (idx s7.1 y13).bind fun y14 =>
          (idx y12 1).bind fun y15 =>
          (idx s7.1 y15).bind fun y16 =>
          iter (fun (s17 : (List Int) × Int) next18 =>
            if decide (s17.2 < (s17.1.length : Int)) then
              if y14 != y16 then
                (idx s17.1 s17.2).bind fun y23 =>
                if y23 == y16 then
                  next18 (s17.1.set s17.2.toNat y14, IntKind.i64.wrap (s17.2 + 1))
                else
                  next18 (s17.1, IntKind.i64.wrap (s17.2 + 1))
              else
                next8 (s17.1, IntKind.i64.wrap (s7.2 + 1))
            else
              next8 (s17.1, IntKind.i64.wrap (s7.2 + 1))) fuel (s7.1, 0)
        else
          (M.spec_l01Classes s7.1).bind fun v25 =>
          some v25) fuel (s1.1, 0)) fuel (([] : List Int), 0)

end Go.Gx

/- Models of the functions. Printed by wip/gen. -/
namespace Go.Gx

def M.spec_l03Parallel (a0 : XCategory) (a1 : Int) (a2 : Int) : Option Bool :=
  (idx a0.From a1).bind fun y1 =>
  (idx a0.From a2).bind fun y2 =>
  if y1 == y2 then
    (idx a0.To a1).bind fun y4 =>
    (idx a0.To a2).bind fun y5 =>
    some (y4 == y5)
  else
    some false

end Go.Gx

/- Models of the functions. Printed by wip/gen. -/
namespace Go.Gx

def M.spec_IsPartition (a0 : List Int) : Option Bool :=
  if decide ((a0.length : Int) ≤ 256) then
    (M.spec_l01Classes a0).bind fun v2 =>
    (M.spec_l01Same a0 v2).bind fun v3 =>
    some v3
  else
    some false

def M.spec_l01Pairs (a0 : List Int) : Option (List (List Int)) :=
  iter (fun (s1 : (List (List Int)) × Int) next2 =>
    if decide (s1.2 < (a0.length : Int)) then
      (idx a0 s1.2).bind fun y6 =>
      (M.spec_l01Index a0 y6).bind fun v7 =>
      chk (s1.1.length + 1 ≤ lim) (
        next2 (s1.1 ++ [[v7, s1.2]], IntKind.i64.wrap (s1.2 + 1)))
    else
      some s1.1) fuel (([] : List (List Int)), 0)

def M.spec_l03Spread (a0 : XCategory) (a1 : List (List Int)) : Option (List Int) :=
  (M.spec_l01Own2 a1).bind fun v1 =>
  iter (fun (s2 : (List (List Int)) × Int) next3 =>
    if decide (s2.2 < (a1.length : Int)) then
      (idx a1 s2.2).bind fun y7 =>
      (idx y7 0).bind fun y8 =>
      (idx y7 1).bind fun y9 =>
      iter (fun (s10 : (List (List Int)) × Int) next11 =>
        if decide (s10.2 < (a0.From.length : Int)) then
          iter (fun (s15 : (List (List Int)) × Int) next16 =>
            if decide (s15.2 < (a0.From.length : Int)) then
              (idx a0.To s10.2).bind fun y20 =>
              (idx a0.From y8).bind fun y21 =>
              if y20 == y21 then
                (idx a0.To y8).bind fun y23 =>
                (idx a0.From s15.2).bind fun y24 =>
                if y23 == y24 then
                  (M.spec_l02Then a0 s10.2 y8).bind fun v26 =>
                  (M.spec_l02Then a0 v26 s15.2).bind fun v27 =>
                  (M.spec_l02Then a0 s10.2 y9).bind fun v28 =>
                  (M.spec_l02Then a0 v28 s15.2).bind fun v29 =>
                  chk (s15.1.length + 1 ≤ lim) (
                    next16 (s15.1 ++ [[v27, v29]], IntKind.i64.wrap (s15.2 + 1)))
                else
                  next16 (s15.1, IntKind.i64.wrap (s15.2 + 1))
              else
                next16 (s15.1, IntKind.i64.wrap (s15.2 + 1))
            else
              next11 (s15.1, IntKind.i64.wrap (s10.2 + 1))) fuel (s10.1, 0)
        else
          next3 (s10.1, IntKind.i64.wrap (s2.2 + 1))) fuel (s2.1, 0)
    else
      (M.spec_l01Join (a0.From.length : Int) s2.1).bind fun v31 =>
      some v31) fuel (v1, 0)

def M.spec_l03Congruence (a0 : XCategory) (a1 : List Int) : Option Bool :=
  if (a1.length : Int) != (a0.From.length : Int) then
    some false
  else
    (M.spec_IsPartition a1).bind fun v2 =>
    if v2 then
      (M.spec_l01Pairs a1).bind fun v4 =>
      iter (fun (s5 : Int) next6 =>
        if decide (s5 < (v4.length : Int)) then
          (idx v4 s5).bind fun y10 =>
          (idx y10 0).bind fun y11 =>
          (idx y10 1).bind fun y12 =>
          (M.spec_l03Parallel a0 y11 y12).bind fun v13 =>
          if v13 then
            next6 (IntKind.i64.wrap (s5 + 1))
          else
            some false
        else
          (M.spec_l03Spread a0 v4).bind fun v15 =>
          (M.spec_l01Same a1 v15).bind fun v16 =>
          some v16) fuel 0
    else
      some false

def M.spec_l03Quotient (a0 : XCategory) (a1 : List Int) : Option XCategory :=
  iter (fun (s1 : (List Int) × Int) next2 =>
    if decide (s1.2 < (a1.length : Int)) then
      (idx a1 s1.2).bind fun y6 =>
      (M.spec_l01Index a1 y6).bind fun v7 =>
      if v7 == s1.2 then
        chk (s1.1.length + (([s1.2] : List Int).length) ≤ lim) (
          next2 (s1.1 ++ ([s1.2] : List Int), IntKind.i64.wrap (s1.2 + 1)))
      else
        next2 (s1.1, IntKind.i64.wrap (s1.2 + 1))
    else
      iter (fun (s10 : (List Int) × Int) next11 =>
        if decide (s10.2 < a0.Objects) then
          (idx a0.Identity s10.2).bind fun y15 =>
          (idx a1 y15).bind fun y16 =>
          chk (s10.1.length + (([y16] : List Int).length) ≤ lim) (
            next11 (s10.1 ++ ([y16] : List Int), IntKind.i64.wrap (s10.2 + 1)))
        else
          iter (fun (s18 : (List Int) × (List Int) × (List (List Int)) × Int) next19 =>
            if decide (s18.2.2.2 < (s1.1.length : Int)) then
              (idx s1.1 s18.2.2.2).bind fun y23 =>
              (idx a0.From y23).bind fun y24 =>
              chk (s18.1.length + (([y24] : List Int).length) ≤ lim) (
                (idx a0.To y23).bind fun y26 =>
                chk (s18.2.1.length + (([y26] : List Int).length) ≤ lim) (
                  iter (fun (s28 : (List Int) × Int) next29 =>
                    if decide (s28.2 < (s1.1.length : Int)) then
                      (idx a0.Composites y23).bind fun y33 =>
                      (idx s1.1 s28.2).bind fun y34 =>
                      (idx y33 y34).bind fun y35 =>
                      if decide (y35 ≥ 0) then
                        (idx a1 y35).bind fun y37 =>
                        chk (s28.1.length + (([y37] : List Int).length) ≤ lim) (
                          next29 (s28.1 ++ ([y37] : List Int), IntKind.i64.wrap (s28.2 + 1)))
                      else
                        chk (s28.1.length + (([y35] : List Int).length) ≤ lim) (
                          next29 (s28.1 ++ ([y35] : List Int), IntKind.i64.wrap (s28.2 + 1)))
                    else
                      chk (s18.2.2.1.length + 1 ≤ lim) (
                        next19 (s18.1 ++ ([y24] : List Int), s18.2.1 ++ ([y26] : List Int), s18.2.2.1 ++ [s28.1], IntKind.i64.wrap (s18.2.2.2 + 1)))) fuel (([] : List Int), 0)))
            else
              some (⟨a0.Objects, s18.1, s18.2.1, s10.1, s18.2.2.1⟩ : XCategory)) fuel (([] : List Int), ([] : List Int), ([] : List (List Int)), 0)) fuel (([] : List Int), 0)) fuel (([] : List Int), 0)

def M.spec_QuotientCategory (a0 : XCategory) (a1 : List Int) : Option (XCategory × Int) :=
  (M.spec_l02Is a0).bind fun v1 =>
  if v1 then
    (M.spec_l03Congruence a0 a1).bind fun v3 =>
    if v3 then
      (M.spec_l03Quotient a0 a1).bind fun v5 =>
      some (v5, 0)
    else
      some ((⟨0, [], [], [], []⟩ : XCategory), 1)
  else
    some ((⟨0, [], [], [], []⟩ : XCategory), 1)

def M.spec_QuotientFunctor (a0 : XCategory) (a1 : List Int) : Option (XFunctor × Int) :=
  (M.spec_QuotientCategory a0 a1).bind fun v1 =>
  if v1.2 != 0 then
    some ((⟨(⟨0, [], [], [], []⟩ : XCategory), (⟨0, [], [], [], []⟩ : XCategory), [], []⟩ : XFunctor), v1.2)
  else
    (M.spec_l06Self a0).bind fun v3 =>
    (M.spec_l06Make a0 v1.1 v3.Objects a1).bind fun v4 =>
    some (v4, 0)

def M.impl_partition_isNormal (a0 : List Int) : Option Bool :=
  iter (fun (s1 : Int × Int) next2 =>
    if decide (s1.2 < (a0.length : Int)) then
      (idx a0 s1.2).bind fun y6 =>
      (M.impl_inRange y6 0 s1.1).bind fun v7 =>
      if v7 then
        if y6 == s1.1 then
          next2 (IntKind.i64.wrap (s1.1 + 1), IntKind.i64.wrap (s1.2 + 1))
        else
          next2 (s1.1, IntKind.i64.wrap (s1.2 + 1))
      else
        some false
    else
      some true) fuel (0, 0)

def M.impl_Category_isCongruence (a0 : XCategory) (a1 : List Int) : Option Bool :=
  (M.impl_Category_arrows a0).bind fun v1 =>
  if (a1.length : Int) != v1 then
    some false
  else
    (M.impl_partition_isNormal a1).bind fun v3 =>
    if v3 then
      iter (fun (s5 : (List (Int × Int)) × Int) next6 =>
        if decide (s5.2 < (a1.length : Int)) then
          (idx a1 s5.2).bind fun y10 =>
          joinM (fun (s11 : List (Int × Int)) =>
            (M.impl_Category_ends a0 s5.2).bind fun v14 =>
            (M.impl_Category_ends a0 ((mget y10 s11).getD 0)).bind fun v15 =>
            if ((v14.from_ == v15.from_) && (v14.to_ == v15.to_)) == false then
              some false
            else
              next6 (s11, IntKind.i64.wrap (s5.2 + 1))) fun k12 =>
          if (mget y10 s5.1).isSome then
            k12 s5.1
          else
            k12 (mput y10 s5.2 s5.1)
        else
          iter (fun (s18 : Int) next19 =>
            if decide (s18 < (a0.Composites.length : Int)) then
              (idx a0.Composites s18).bind fun y23 =>
              iter (fun (s24 : Int) next25 =>
                if decide (s24 < (y23.length : Int)) then
                  (idx y23 s24).bind fun y29 =>
                  if decide (y29 ≥ 0) then
                    (idx a1 y29).bind fun y31 =>
                    (idx a1 s18).bind fun y32 =>
                    (idx a1 s24).bind fun y33 =>
                    (M.impl_Category_then a0 ((mget y32 s5.1).getD 0) ((mget y33 s5.1).getD 0)).bind fun v34 =>
                    (idx a1 v34).bind fun y35 =>
                    if y31 != y35 then
                      some false
                    else
                      next25 (IntKind.i64.wrap (s24 + 1))
                  else
                    next25 (IntKind.i64.wrap (s24 + 1))
                else
                  next19 (IntKind.i64.wrap (s18 + 1))) fuel 0
            else
              some true) fuel 0) fuel (([] : List (Int × Int)), 0)
    else
      some false

def M.impl_Category_quotient_1 (a0 : Int) (a1 : Int) (a2 : List Int) (a3 : XCategory) (a4 : List Int) : Option Int :=
  (idx a4 a0).bind fun y1 =>
  (idx a4 a1).bind fun y2 =>
  (M.impl_Category_then a3 y1 y2).bind fun v3 =>
  (idx a2 v3).bind fun y4 =>
  some y4

def M.impl_Category_quotient (a0 : XCategory) (a1 : List Int) : Option XCategory :=
  (M.impl_partition_classes a1).bind fun v1 =>
  chk ((0 : Int) ≤ v1 ∧ v1 ≤ (lim : Int)) (
    (M.impl_then a0.Identity a1).bind fun v3 =>
    iter (fun (s4 : (List Int) × (List Int) × (List Int) × Int) next5 =>
      if decide (s4.2.2.2 ≥ 0) then
        (idx a1 s4.2.2.2).bind fun y9 =>
        (idx s4.2.2.1 y9).bind fun _ =>
        (idx a0.From s4.2.2.2).bind fun y11 =>
        (idx s4.1 y9).bind fun _ =>
        (idx a0.To s4.2.2.2).bind fun y13 =>
        (idx s4.2.1 y9).bind fun _ =>
        next5 (s4.1.set y9.toNat y11, s4.2.1.set y9.toNat y13, s4.2.2.1.set y9.toNat s4.2.2.2, IntKind.i64.wrap (s4.2.2.2 - 1))
      else
        (M.impl_Category_table (⟨a0.Objects, s4.1, s4.2.1, v3, []⟩ : XCategory) (fun (x0 : Int) (x1 : Int) => M.impl_Category_quotient_1 x0 x1 a1 a0 s4.2.2.1)).bind fun v15 =>
        some v15) fuel ((List.replicate v1.toNat (0 : Int)), (List.replicate v1.toNat (0 : Int)), (List.replicate v1.toNat (0 : Int)), IntKind.i64.wrap ((a1.length : Int) - 1)))

def M.impl_QuotientCategory (a0 : XCategory) (a1 : List Int) : Option (XCategory × Int) :=
  (M.impl_Category_isCategory a0).bind fun v1 =>
  if v1 then
    (M.impl_Category_isCongruence a0 a1).bind fun v3 =>
    if v3 then
      (M.impl_Category_quotient a0 a1).bind fun v5 =>
      some (v5, 0)
    else
      some ((⟨0, [], [], [], []⟩ : XCategory), 1)
  else
    some ((⟨0, [], [], [], []⟩ : XCategory), 1)

def M.impl_QuotientFunctor (a0 : XCategory) (a1 : List Int) : Option (XFunctor × Int) :=
  (M.impl_QuotientCategory a0 a1).bind fun v1 =>
  if v1.2 != 0 then
    some ((⟨(⟨0, [], [], [], []⟩ : XCategory), (⟨0, [], [], [], []⟩ : XCategory), [], []⟩ : XFunctor), v1.2)
  else
    (M.impl_numbers a0.Objects).bind fun v3 =>
    (M.impl_functor a0 v1.1 v3 a1).bind fun v4 =>
    some (v4, 0)

def M.laws_FnExactQuotientFunctor (a0 : XCategory) (a1 : List Int) : Option Bool :=
  if decide ((a1.length : Int) > 1048576) then
    some true
  else
    (M.laws_szCategory a0 1048576).bind fun v2 =>
    if decide (v2 < 0) then
      some true
    else
      (M.laws_toCategory a0).bind fun v4 =>
      (M.laws_toInt64S a1).bind fun v5 =>
      (M.spec_QuotientFunctor v4 v5).bind fun v6 =>
      (M.impl_QuotientFunctor v4 v5).bind fun v7 =>
      (M.laws_eqFunctor v7.1 v6.1).bind fun v8 =>
      if v8 then
        if v7.2 != v6.2 then
          some false
        else
          (M.laws_eqCategory v4 v4).bind fun v11 =>
          if v11 then
            (M.laws_eqInt64S v5 v5).bind fun v13 =>
            if v13 then
              (M.laws_markCategory v4 1).bind fun v15 =>
              (M.laws_markInt64S v5 v15.1).bind fun v16 =>
              if decide (v16.1 < 0) then
                some false
              else
                (M.laws_markFunctor v7.1 1).bind fun v18 =>
                (M.laws_heldFunctor v18.2 1).bind fun v19 =>
                if decide (v19 < 0) then
                  some false
                else
                  if v19 != v18.1 then
                    some false
                  else
                    some true
            else
              some false
          else
            some false
      else
        some false

end Go.Gx

/- Models of the functions. Printed by wip/gen. -/
namespace Go.Gx

end Go.Gx

/- Models of the functions. Printed by wip/gen. -/
namespace Go.Gx

end Go.Gx

/- Models of the functions. Printed by wip/gen. -/
namespace Go.Gx

end Go.Gx

/- Models of the functions. Printed by wip/gen. -/
namespace Go.Gx

end Go.Gx

/- Models of the functions. Printed by wip/gen. -/
namespace Go.Gx

end Go.Gx
