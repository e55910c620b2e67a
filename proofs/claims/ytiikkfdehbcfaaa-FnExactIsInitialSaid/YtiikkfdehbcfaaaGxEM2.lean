/- Laid together: part 2. -/
import Derived.Test.YtiikkfdehbcfaaaGxEM0
import Derived.Test.YtiikkfdehbcfaaaGxE1
/- Models of the functions. Printed by wip/gen. -/
namespace Go.Gx

def M.spec_l03Op (a0 : XCategory) : Option XCategory :=
  (M.spec_l01Own a0.To).bind fun v1 =>
  (M.spec_l01Own a0.From).bind fun v2 =>
  (M.spec_l01Own a0.Identity).bind fun v3 =>
  iter (fun (s4 : (List (List Int)) × Int) next5 =>
    if decide (s4.2 < (a0.From.length : Int)) then
      iter (fun (s9 : (List Int) × Int) next10 =>
        if decide (s9.2 < (a0.From.length : Int)) then
          (idx a0.Composites s9.2).bind fun y14 =>
          (idx y14 s4.2).bind fun y15 =>
          chk (s9.1.length + (([y15] : List Int).length) ≤ lim) (
            next10 (s9.1 ++ ([y15] : List Int), IntKind.i64.wrap (s9.2 + 1)))
        else
          chk (s4.1.length + 1 ≤ lim) (
            next5 (s4.1 ++ [s9.1], IntKind.i64.wrap (s4.2 + 1)))) fuel (([] : List Int), 0)
    else
      some (⟨a0.Objects, v1, v2, v3, s4.1⟩ : XCategory)) fuel (([] : List (List Int)), 0)

def M.spec_l06Op (a0 : XFunctor) : Option XFunctor :=
  (M.spec_l03Op a0.Source).bind fun v1 =>
  (M.spec_l03Op a0.Target).bind fun v2 =>
  (M.spec_l06Make v1 v2 a0.Objects a0.Arrows).bind fun v3 =>
  some v3

def M.impl_opposite_1 (a0 : Int) (a1 : Int) (a2 : XCategory) : Option Int :=
  (M.impl_Category_then a2 a1 a0).bind fun v1 =>
  some v1

def M.impl_opposite (a0 : XCategory) : Option XCategory :=
  (M.impl_clone a0.To).bind fun v1 =>
  (M.impl_clone a0.From).bind fun v2 =>
  (M.impl_clone a0.Identity).bind fun v3 =>
  (M.impl_Category_table (⟨a0.Objects, v1, v2, v3, []⟩ : XCategory) (fun (x0 : Int) (x1 : Int) => M.impl_opposite_1 x0 x1 a0)).bind fun v4 =>
  some v4

def M.impl_Functor_opposite (a0 : XFunctor) : Option XFunctor :=
  (M.impl_opposite a0.Source).bind fun v1 =>
  (M.impl_opposite a0.Target).bind fun v2 =>
  (M.impl_functor v1 v2 a0.Objects a0.Arrows).bind fun v3 =>
  some v3

end Go.Gx

/- Models of the functions. Printed by wip/gen. -/
namespace Go.Gx

structure Ximpl_pair_int64 where
  first_ : Int
  second_ : Int
def eXimpl_pair_int64 : Enc Ximpl_pair_int64 := (eA (eC eI Ximpl_pair_int64.first_) (eC eI Ximpl_pair_int64.second_))
theorem eXimpl_pair_int64_ok : EncOk eXimpl_pair_int64 := (eA_ok (eC_ok eI_ok _) (eC_ok eI_ok _))
def R.Ximpl_pair_int64 (x : Ximpl_pair_int64) : Prop := (I64 x.first_) ∧ (I64 x.second_)
def M.spec_l06Constant (a0 : XCategory) (a1 : XCategory) (a2 : Int) : Option XFunctor :=
  iter (fun (s1 : (List Int) × Int) next2 =>
    if decide (s1.2 < a0.Objects) then
      chk (s1.1.length + (([a2] : List Int).length) ≤ lim) (
        next2 (s1.1 ++ ([a2] : List Int), IntKind.i64.wrap (s1.2 + 1)))
    else
      iter (fun (s7 : (List Int) × Int) next8 =>
        if decide (s7.2 < (a0.From.length : Int)) then
          (idx a1.Identity a2).bind fun y12 =>
          chk (s7.1.length + (([y12] : List Int).length) ≤ lim) (
            next8 (s7.1 ++ ([y12] : List Int), IntKind.i64.wrap (s7.2 + 1)))
        else
          (M.spec_l06Make a0 a1 s1.1 s7.1).bind fun v14 =>
          some v14) fuel (([] : List Int), 0)) fuel (([] : List Int), 0)

def M.spec_l03Poset (a0 : List (List Int)) : Option XCategory :=
  iter (fun (s1 : (List (List Int)) × (List Int) × (List Int) × Int) next2 =>
    if decide (s1.2.2.2 < (a0.length : Int)) then
      iter (fun (s6 : (List Int) × (List Int) × (List Int) × Int) next7 =>
        if decide (s6.2.2.2 < (a0.length : Int)) then
          chk (s6.2.2.1.length + (([(s6.1.length : Int)] : List Int).length) ≤ lim) (
            (idx a0 s1.2.2.2).bind fun y12 =>
            (idx y12 s6.2.2.2).bind fun y13 =>
            if y13 == 1 then
              chk (s6.1.length + (([s1.2.2.2] : List Int).length) ≤ lim) (
                chk (s6.2.1.length + (([s6.2.2.2] : List Int).length) ≤ lim) (
                  next7 (s6.1 ++ ([s1.2.2.2] : List Int), s6.2.1 ++ ([s6.2.2.2] : List Int), s6.2.2.1 ++ ([(s6.1.length : Int)] : List Int), IntKind.i64.wrap (s6.2.2.2 + 1))))
            else
              next7 (s6.1, s6.2.1, s6.2.2.1 ++ ([(s6.1.length : Int)] : List Int), IntKind.i64.wrap (s6.2.2.2 + 1)))
        else
          chk (s1.1.length + 1 ≤ lim) (
            next2 (s1.1 ++ [s6.2.2.1], s6.1, s6.2.1, IntKind.i64.wrap (s1.2.2.2 + 1)))) fuel (s1.2.1, s1.2.2.1, ([] : List Int), 0)
    else
      iter (fun (s18 : (List Int) × Int) next19 =>
        if decide (s18.2 < (a0.length : Int)) then
          (idx s1.1 s18.2).bind fun y23 =>
          (idx y23 s18.2).bind fun y24 =>
          chk (s18.1.length + (([y24] : List Int).length) ≤ lim) (
            next19 (s18.1 ++ ([y24] : List Int), IntKind.i64.wrap (s18.2 + 1)))
        else
          iter (fun (s26 : (List (List Int)) × Int) next27 =>
            if decide (s26.2 < (s1.2.1.length : Int)) then
              iter (fun (s31 : (List Int) × Int) next32 =>
                if decide (s31.2 < (s1.2.1.length : Int)) then
                  (idx s1.2.2.1 s26.2).bind fun y36 =>
                  (idx s1.2.1 s31.2).bind fun y37 =>
                  if y36 == y37 then
                    (idx s1.2.1 s26.2).bind fun y39 =>
                    (idx s1.1 y39).bind fun y40 =>
                    (idx s1.2.2.1 s31.2).bind fun y41 =>
                    (idx y40 y41).bind fun y42 =>
                    chk (s31.1.length + (([y42] : List Int).length) ≤ lim) (
                      next32 (s31.1 ++ ([y42] : List Int), IntKind.i64.wrap (s31.2 + 1)))
                  else
                    chk (s31.1.length + (([(-1)] : List Int).length) ≤ lim) (
                      next32 (s31.1 ++ ([(-1)] : List Int), IntKind.i64.wrap (s31.2 + 1)))
                else
                  chk (s26.1.length + 1 ≤ lim) (
                    next27 (s26.1 ++ [s31.1], IntKind.i64.wrap (s26.2 + 1)))) fuel (([] : List Int), 0)
            else
              some (⟨(a0.length : Int), s1.2.1, s1.2.2.1, s18.1, s26.1⟩ : XCategory)) fuel (([] : List (List Int)), 0)) fuel (([] : List Int), 0)) fuel (([] : List (List Int)), ([] : List Int), ([] : List Int), 0)

def M.spec_l09One  : Option XCategory :=
  (M.spec_l03Poset ([[1]] : List (List Int))).bind fun v1 =>
  some v1

def M.spec_l09Point (a0 : XCategory) (a1 : Int) : Option XFunctor :=
  (M.spec_l09One).bind fun v1 =>
  (M.spec_l06Constant v1 a0 a1).bind fun v2 =>
  some v2

def M.spec_l09Objects (a0 : XFunctor) (a1 : XFunctor) : Option (List (List Int)) :=
  iter (fun (s1 : (List (List Int)) × Int) next2 =>
    if decide (s1.2 < a0.Source.Objects) then
      iter (fun (s6 : (List (List Int)) × Int) next7 =>
        if decide (s6.2 < a1.Source.Objects) then
          (idx a0.Objects s1.2).bind fun y11 =>
          (idx a1.Objects s6.2).bind fun y12 =>
          (M.spec_l02Hom a0.Target y11 y12).bind fun v13 =>
          iter (fun (s14 : (List (List Int)) × Int) next15 =>
            if decide (s14.2 < (v13.length : Int)) then
              (idx v13 s14.2).bind fun y19 =>
              chk (s14.1.length + 1 ≤ lim) (
                next15 (s14.1 ++ [[s1.2, s6.2, y19]], IntKind.i64.wrap (s14.2 + 1)))
            else
              next7 (s14.1, IntKind.i64.wrap (s6.2 + 1))) fuel (s6.1, 0)
        else
          next2 (s6.1, IntKind.i64.wrap (s1.2 + 1))) fuel (s1.1, 0)
    else
      some s1.1) fuel (([] : List (List Int)), 0)

def M.spec_l09Arrows (a0 : XFunctor) (a1 : XFunctor) (a2 : List (List Int)) : Option (List (List Int)) :=
  iter (fun (s1 : (List (List Int)) × Int) next2 =>
    if decide (s1.2 < (a2.length : Int)) then
      iter (fun (s6 : (List (List Int)) × Int) next7 =>
        if decide (s6.2 < (a2.length : Int)) then
          (idx a2 s1.2).bind fun y11 =>
          (idx a2 s6.2).bind fun y12 =>
          (idx y11 0).bind fun y13 =>
          (idx y12 0).bind fun y14 =>
          (M.spec_l02Hom a0.Source y13 y14).bind fun v15 =>
          (idx y11 1).bind fun y16 =>
          (idx y12 1).bind fun y17 =>
          (M.spec_l02Hom a1.Source y16 y17).bind fun v18 =>
          iter (fun (s19 : (List (List Int)) × Int) next20 =>
            if decide (s19.2 < (v15.length : Int)) then
              iter (fun (s24 : (List (List Int)) × Int) next25 =>
                if decide (s24.2 < (v18.length : Int)) then
                  (idx v15 s19.2).bind fun y29 =>
                  (idx a0.Arrows y29).bind fun y30 =>
                  (idx y12 2).bind fun y31 =>
                  (M.spec_l02Then a0.Target y30 y31).bind fun v32 =>
                  (idx y11 2).bind fun y33 =>
                  (idx v18 s24.2).bind fun y34 =>
                  (idx a1.Arrows y34).bind fun y35 =>
                  (M.spec_l02Then a0.Target y33 y35).bind fun v36 =>
                  if v32 == v36 then
                    chk (s24.1.length + 1 ≤ lim) (
                      next25 (s24.1 ++ [[s1.2, s6.2, y29, y34]], IntKind.i64.wrap (s24.2 + 1)))
                  else
                    next25 (s24.1, IntKind.i64.wrap (s24.2 + 1))
                else
                  next20 (s24.1, IntKind.i64.wrap (s19.2 + 1))) fuel (s19.1, 0)
            else
              next7 (s19.1, IntKind.i64.wrap (s6.2 + 1))) fuel (s6.1, 0)
        else
          next2 (s6.1, IntKind.i64.wrap (s1.2 + 1))) fuel (s1.1, 0)
    else
      some s1.1) fuel (([] : List (List Int)), 0)

def M.spec_l09Final (a0 : XFunctor) : Option Bool :=
  iter (fun (s1 : Int) next2 =>
    if decide (s1 < a0.Target.Objects) then
      (M.spec_l09Point a0.Target s1).bind fun v6 =>
      (M.spec_l09Objects v6 a0).bind fun v7 =>
      (M.spec_l09Arrows v6 a0 v7).bind fun v8 =>
      iter (fun (s9 : (List (List Int)) × Int) next10 =>
        if decide (s9.2 < (v8.length : Int)) then
          (idx v8 s9.2).bind fun y14 =>
          (idx y14 0).bind fun y15 =>
          (idx y14 1).bind fun y16 =>
          chk (s9.1.length + 1 ≤ lim) (
            next10 (s9.1 ++ [[y15, y16]], IntKind.i64.wrap (s9.2 + 1)))
        else
          (M.spec_l01Join (v7.length : Int) s9.1).bind fun v18 =>
          iter (fun (s19 : Int) next20 =>
            if decide (s19 < (v18.length : Int)) then
              (idx v18 s19).bind fun y24 =>
              if y24 != 0 then
                some false
              else
                next20 (IntKind.i64.wrap (s19 + 1))
            else
              if (v7.length : Int) == 0 then
                some false
              else
                next2 (IntKind.i64.wrap (s1 + 1))) fuel 0) fuel (([] : List (List Int)), 0)
    else
      some true) fuel 0

def M.spec_IsInitial (a0 : XFunctor) : Option (Bool × Int) :=
  (M.spec_l06Is a0).bind fun v1 =>
  if v1 then
    (M.spec_l06Op a0).bind fun v3 =>
    (M.spec_l09Final v3).bind fun v4 =>
    some (v4, 0)
  else
    some (false, 1)

def M.slices_Index_impl_pair_int64_impl_pair_int64 (a0 : List Ximpl_pair_int64) (a1 : Ximpl_pair_int64) : Option Int :=
  iter (fun (s1 : Int) next2 =>
    if decide (s1 < (a0.length : Int)) then
      (idx a0 s1).bind fun y6 =>
      if ((a1.first_ == y6.first_) && (a1.second_ == y6.second_)) == true then
        some s1
      else
        next2 (IntKind.i64.wrap (s1 + 1))
    else
      some (-1)) fuel 0

def M.impl_index_impl_pair_int64 (a0 : List Ximpl_pair_int64) (a1 : Ximpl_pair_int64) : Option Int :=
  (M.slices_Index_impl_pair_int64_impl_pair_int64 a0 a1).bind fun v1 =>
  some v1

def M.impl_Functor_isFinal (a0 : XFunctor) : Option Bool :=
  iter (fun (s1 : Int) next2 =>
    if decide (s1 < a0.Target.Objects) then
      iter (fun (s6 : (List Ximpl_pair_int64) × Int) next7 =>
        if decide (s6.2 < (a0.Objects.length : Int)) then
          (idx a0.Objects s6.2).bind fun y11 =>
          (M.impl_Category_hom a0.Target s1 y11).bind fun v12 =>
          iter (fun (s13 : (List Ximpl_pair_int64) × Int) next14 =>
            if decide (s13.2 < (v12.length : Int)) then
              (idx v12 s13.2).bind fun y18 =>
              chk (s13.1.length + (([(⟨s6.2, y18⟩ : Ximpl_pair_int64)] : List Ximpl_pair_int64).length) ≤ lim) (
                next14 (s13.1 ++ ([(⟨s6.2, y18⟩ : Ximpl_pair_int64)] : List Ximpl_pair_int64), IntKind.i64.wrap (s13.2 + 1)))
            else
              next7 (s13.1, IntKind.i64.wrap (s6.2 + 1))) fuel (s6.1, 0)
        else
          (M.impl_joinerOf (s6.1.length : Int)).bind fun v20 =>
          iter (fun (s21 : (List Int) × Int) next22 =>
            if decide (s21.2 < (s6.1.length : Int)) then
              (idx s6.1 s21.2).bind fun y26 =>
              (M.impl_Category_outOf a0.Source y26.first_).bind fun v27 =>
              iter (fun (s28 : (List Int) × Int) next29 =>
                if decide (s28.2 < (v27.length : Int)) then
                  (idx v27 s28.2).bind fun y33 =>
                  (idx a0.Source.To y33).bind fun y34 =>
                  (idx a0.Arrows y33).bind fun y35 =>
                  (M.impl_Category_then a0.Target y26.second_ y35).bind fun v36 =>
                  (M.impl_index_impl_pair_int64 s6.1 (⟨y34, v36⟩ : Ximpl_pair_int64)).bind fun v37 =>
                  (M.impl_joiner_join s28.1 s21.2 v37).bind fun v38 =>
                  next29 (v38.2, IntKind.i64.wrap (s28.2 + 1))
                else
                  next22 (s28.1, IntKind.i64.wrap (s21.2 + 1))) fuel (s21.1, 0)
            else
              (M.impl_joiner_partition s21.1).bind fun v39 =>
              (M.impl_partition_classes v39.1).bind fun v40 =>
              if v40 != 1 then
                some false
              else
                next2 (IntKind.i64.wrap (s1 + 1))) fuel (v20, 0)) fuel (([] : List Ximpl_pair_int64), 0)
    else
      some true) fuel 0

def M.impl_IsInitial (a0 : XFunctor) : Option (Bool × Int) :=
  (M.impl_Functor_isFunctor a0).bind fun v1 =>
  if v1 then
    (M.impl_Functor_opposite a0).bind fun v3 =>
    (M.impl_Functor_isFinal v3).bind fun v4 =>
    some (v4, 0)
  else
    some (false, 1)

def M.laws_FnExactIsInitial (a0 : XFunctor) : Option Bool :=
  (M.laws_szFunctor a0 1048576).bind fun v1 =>
  if decide (v1 < 0) then
    some true
  else
    (M.laws_toFunctor a0).bind fun v3 =>
    (M.spec_IsInitial v3).bind fun v4 =>
    (M.impl_IsInitial v3).bind fun v5 =>
    if (v5.1 == v4.1) == false then
      some false
    else
      if v5.2 != v4.2 then
        some false
      else
        (M.laws_eqFunctor v3 v3).bind fun v8 =>
        if v8 then
          some true
        else
          some false

end Go.Gx

/- Models of the functions. Printed by wip/gen. -/
namespace Go.Gx

structure XAdjunction where
  Left : XFunctor
  Right : XFunctor
  Unit : List Int
  Counit : List Int
def R.XAdjunction (x : XAdjunction) : Prop := (R.XFunctor x.Left) ∧ (R.XFunctor x.Right) ∧ (AllL I64 x.Unit) ∧ (AllL I64 x.Counit)
end Go.Gx

/- Models of the functions. Printed by wip/gen. -/
namespace Go.Gx

end Go.Gx

/- Models of the functions. Printed by wip/gen. -/
namespace Go.Gx

end Go.Gx

/- Models of the functions. Printed by wip/gen. -/
namespace Go.Gx

end Go.Gx
