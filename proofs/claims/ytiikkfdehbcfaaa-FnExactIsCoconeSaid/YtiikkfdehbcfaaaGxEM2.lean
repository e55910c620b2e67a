/- Laid together: part 2. -/
import Derived.Test.YtiikkfdehbcfaaaGxEM0
import Derived.Test.YtiikkfdehbcfaaaGxE1
/- Models of the functions. Printed by wip/gen. -/
namespace Go.Gx

def M.spec_l03Op (a0 : XCategory) : Option XCategory :=
  (M.spec_l01Own a0.To).bind fun v1 =>
  (M.spec_l01Own a0.From).bind fun v2 =>
  (M.spec_l01Own a0.Identity).bind fun v3 =>
  iter (fun (s4 : (List (List Int)) × Int) next5 =>
    if decide (s4.2 < (a0.From.length : Int)) then
      iter (fun (s9 : (List Int) × Int) next10 =>
        if decide (s9.2 < (a0.From.length : Int)) then
          (idx a0.Composites s9.2).bind fun y14 =>
          (idx y14 s4.2).bind fun y15 =>
          chk (s9.1.length + (([y15] : List Int).length) ≤ lim) (
            next10 (s9.1 ++ ([y15] : List Int), IntKind.i64.wrap (s9.2 + 1)))
        else
          chk (s4.1.length + 1 ≤ lim) (
            next5 (s4.1 ++ [s9.1], IntKind.i64.wrap (s4.2 + 1)))) fuel (([] : List Int), 0)
    else
      some (⟨a0.Objects, v1, v2, v3, s4.1⟩ : XCategory)) fuel (([] : List (List Int)), 0)

def M.spec_l06Op (a0 : XFunctor) : Option XFunctor :=
  (M.spec_l03Op a0.Source).bind fun v1 =>
  (M.spec_l03Op a0.Target).bind fun v2 =>
  (M.spec_l06Make v1 v2 a0.Objects a0.Arrows).bind fun v3 =>
  some v3

def M.impl_opposite_1 (a0 : Int) (a1 : Int) (a2 : XCategory) : Option Int :=
  (M.impl_Category_then a2 a1 a0).bind fun v1 =>
  some v1

def M.impl_opposite (a0 : XCategory) : Option XCategory :=
  (M.impl_clone a0.To).bind fun v1 =>
  (M.impl_clone a0.From).bind fun v2 =>
  (M.impl_clone a0.Identity).bind fun v3 =>
  (M.impl_Category_table (⟨a0.Objects, v1, v2, v3, []⟩ : XCategory) (fun (x0 : Int) (x1 : Int) => M.impl_opposite_1 x0 x1 a0)).bind fun v4 =>
  some v4

def M.impl_Functor_opposite (a0 : XFunctor) : Option XFunctor :=
  (M.impl_opposite a0.Source).bind fun v1 =>
  (M.impl_opposite a0.Target).bind fun v2 =>
  (M.impl_functor v1 v2 a0.Objects a0.Arrows).bind fun v3 =>
  some v3

end Go.Gx

/- Models of the functions. Printed by wip/gen. -/
namespace Go.Gx

structure XCone where
  Apex : Int
  Legs : List Int
def eXCone : Enc XCone := (eA (eC eI XCone.Apex) (eC (eS eI) XCone.Legs))
theorem eXCone_ok : EncOk eXCone := (eA_ok (eC_ok eI_ok _) (eC_ok (eS_ok eI_ok) _))
def R.XCone (x : XCone) : Prop := (I64 x.Apex) ∧ (AllL I64 x.Legs)
structure Xcocones where
  opposite_ : XFunctor
def eXcocones : Enc Xcocones :=  (eC (eP eXFunctor) Xcocones.opposite_)
def R.Xcocones (x : Xcocones) : Prop := ((fun _ => True) x.opposite_)

def M.laws_szCone (a0 : XCone) (a1 : Int) : Option Int :=
  (M.laws_szInt64S a0.Legs a1).bind fun v1 =>
  if decide (v1 < 0) then
    some (-1)
  else
    some v1

def M.laws_toCone (a0 : XCone) : Option XCone :=
  (M.laws_toInt64S a0.Legs).bind fun v1 =>
  some (⟨a0.Apex, v1⟩ : XCone)

def M.spec_l12Cone (a0 : XFunctor) (a1 : XCone) : Option Bool :=
  (M.spec_l02Object a0.Target a1.Apex).bind fun v1 =>
  if v1 then
    if (a1.Legs.length : Int) != (a0.Objects.length : Int) then
      some false
    else
      (M.spec_l01Map (a0.Target.From.length : Int) a1.Legs).bind fun v4 =>
      if v4 then
        iter (fun (s6 : Int) next7 =>
          if decide (s6 < (a1.Legs.length : Int)) then
            (idx a1.Legs s6).bind fun y11 =>
            (idx a0.Target.From y11).bind fun y12 =>
            if y12 != a1.Apex then
              some false
            else
              (idx a0.Target.To y11).bind fun y14 =>
              (idx a0.Objects s6).bind fun y15 =>
              if y14 != y15 then
                some false
              else
                next7 (IntKind.i64.wrap (s6 + 1))
          else
            iter (fun (s17 : Int) next18 =>
              if decide (s17 < (a0.Arrows.length : Int)) then
                (idx a0.Source.From s17).bind fun y22 =>
                (idx a1.Legs y22).bind fun y23 =>
                (idx a0.Arrows s17).bind fun y24 =>
                (M.spec_l02Then a0.Target y23 y24).bind fun v25 =>
                (idx a0.Source.To s17).bind fun y26 =>
                (idx a1.Legs y26).bind fun y27 =>
                if v25 != y27 then
                  some false
                else
                  next18 (IntKind.i64.wrap (s17 + 1))
              else
                some true) fuel 0) fuel 0
      else
        some false
  else
    some false

def M.impl_isCone (a0 : XFunctor) (a1 : XCone) : Option Bool :=
  (M.impl_inRange a1.Apex 0 (IntKind.i64.wrap (a0.Target.Objects - 1))).bind fun v1 =>
  if v1 then
    if (a1.Legs.length : Int) != (a0.Objects.length : Int) then
      some false
    else
      (M.impl_Category_arrows a0.Target).bind fun v4 =>
      (M.impl_within a1.Legs v4).bind fun v5 =>
      if v5 then
        iter (fun (s7 : Int) next8 =>
          if decide (s7 < (a1.Legs.length : Int)) then
            (idx a1.Legs s7).bind fun y12 =>
            (M.impl_Category_ends a0.Target y12).bind fun v13 =>
            (idx a0.Objects s7).bind fun y14 =>
            if ((v13.from_ == a1.Apex) && (v13.to_ == y14)) == false then
              some false
            else
              next8 (IntKind.i64.wrap (s7 + 1))
          else
            iter (fun (s16 : Int) next17 =>
              if decide (s16 < (a0.Arrows.length : Int)) then
                (idx a0.Arrows s16).bind fun y21 =>
                (idx a0.Source.From s16).bind fun y22 =>
                (idx a1.Legs y22).bind fun y23 =>
                (M.impl_Category_then a0.Target y23 y21).bind fun v24 =>
                (idx a0.Source.To s16).bind fun y25 =>
                (idx a1.Legs y25).bind fun y26 =>
                if v24 != y26 then
                  some false
                else
                  next17 (IntKind.i64.wrap (s16 + 1))
              else
                some true) fuel 0) fuel 0
      else
        some false
  else
    some false

def M.impl_coconesOf (a0 : XFunctor) : Option XFunctor :=
  (M.impl_Functor_opposite a0).bind fun v1 =>
  some v1

def M.impl_cocones_diagram (a0 : Xcocones) : Option XFunctor :=
  some a0.opposite_

def M.laws_eqCone (a0 : XCone) (a1 : XCone) : Option Bool :=
  if a0.Apex != a1.Apex then
    some false
  else
    (M.laws_eqInt64S a0.Legs a1.Legs).bind fun v2 =>
    if v2 then
      some true
    else
      some false

end Go.Gx

/- Models of the functions. Printed by wip/gen. -/
namespace Go.Gx

structure XAdjunction where
  Left : XFunctor
  Right : XFunctor
  Unit : List Int
  Counit : List Int
def R.XAdjunction (x : XAdjunction) : Prop := (R.XFunctor x.Left) ∧ (R.XFunctor x.Right) ∧ (AllL I64 x.Unit) ∧ (AllL I64 x.Counit)
end Go.Gx

/- Models of the functions. Printed by wip/gen. -/
namespace Go.Gx

end Go.Gx

/- Models of the functions. Printed by wip/gen. -/
namespace Go.Gx

end Go.Gx

/- Models of the functions. Printed by wip/gen. -/
namespace Go.Gx

end Go.Gx
