/- Laid together: part 4. -/
import Derived.Test.YtiikkfdehbcfaaaGxEM2
import Derived.Test.YtiikkfdehbcfaaaGxE1
/- Models of the functions. Printed by wip/gen. -/
namespace Go.Gx

def M.spec_l12Two (a0 : XFunctor) (a1 : XCone) (a2 : XCone) : Option Int :=
  (M.spec_l12Cone a0 a1).bind fun v1 =>
  if v1 then
    (M.spec_l12Cone a0 a2).bind fun v3 =>
    if v3 then
      some 0
    else
      some 5
  else
    some 5

def M.spec_l12Maps (a0 : XFunctor) (a1 : XCone) (a2 : XCone) : Option (List Int) :=
  (M.spec_l02Hom a0.Target a1.Apex a2.Apex).bind fun v1 =>
  iter (fun (s2 : (List Int) × Int) next3 =>
    if decide (s2.2 < (v1.length : Int)) then
      joinM (fun (s7 : Bool) =>
        if s7 then
          (idx v1 s2.2).bind fun y11 =>
          chk (s2.1.length + (([y11] : List Int).length) ≤ lim) (
            next3 (s2.1 ++ ([y11] : List Int), IntKind.i64.wrap (s2.2 + 1)))
        else
          next3 (s2.1, IntKind.i64.wrap (s2.2 + 1))) fun k8 =>
      iter (fun (s13 : Bool × Int) next14 =>
        if decide (s13.2 < (a1.Legs.length : Int)) then
          if s13.1 then
            (idx v1 s2.2).bind fun y19 =>
            (idx a2.Legs s13.2).bind fun y20 =>
            (M.spec_l02Then a0.Target y19 y20).bind fun v21 =>
            (idx a1.Legs s13.2).bind fun y22 =>
            next14 (v21 == y22, IntKind.i64.wrap (s13.2 + 1))
          else
            k8 s13.1
        else
          k8 s13.1) fuel (true, 0)
    else
      some s2.1) fuel (([] : List Int), 0)

def M.spec_CoconeMaps (a0 : XFunctor) (a1 : XCone) (a2 : XCone) : Option ((List Int) × Int) :=
  (M.spec_l06Is a0).bind fun v1 =>
  if v1 then
    (M.spec_l06Op a0).bind fun v3 =>
    (M.spec_l12Two v3 a1 a2).bind fun v4 =>
    if v4 != 0 then
      some (([] : List Int), v4)
    else
      (M.spec_l12Maps v3 a2 a1).bind fun v6 =>
      some (v6, 0)
  else
    some (([] : List Int), 1)

def M.impl_coneMaps (a0 : XFunctor) (a1 : XCone) (a2 : XCone) : Option (List Int) :=
  (M.impl_Category_hom a0.Target a1.Apex a2.Apex).bind fun v1 =>
  iter (fun (s2 : (List Int) × Int) next3 =>
    if decide (s2.2 < (v1.length : Int)) then
      (idx v1 s2.2).bind fun y7 =>
      iter (fun (s8 : Int) next9 =>
        if decide (s8 < (a2.Legs.length : Int)) then
          (idx a2.Legs s8).bind fun y13 =>
          (M.impl_Category_then a0.Target y7 y13).bind fun v14 =>
          (idx a1.Legs s8).bind fun y15 =>
          if v14 != y15 then
            next3 (s2.1, IntKind.i64.wrap (s2.2 + 1))
          else
            next9 (IntKind.i64.wrap (s8 + 1))
        else
          chk (s2.1.length + (([y7] : List Int).length) ≤ lim) (
            next3 (s2.1 ++ ([y7] : List Int), IntKind.i64.wrap (s2.2 + 1)))) fuel 0
    else
      some s2.1) fuel (([] : List Int), 0)

def M.impl_cocones_maps (a0 : Xcocones) (a1 : XCone) (a2 : XCone) : Option (List Int) :=
  (M.impl_coneMaps a0.opposite_ a2 a1).bind fun v1 =>
  some v1

def M.impl_coneCode (a0 : Xcocones) (a1 : List XCone) : Option Int :=
  iter (fun (s1 : Int) next2 =>
    if decide (s1 < (a1.length : Int)) then
      (idx a1 s1).bind fun y6 =>
      (M.impl_cocones_diagram a0).bind fun v7 =>
      (M.impl_isCone v7 y6).bind fun v8 =>
      if v8 then
        next2 (IntKind.i64.wrap (s1 + 1))
      else
        some 5
    else
      some 0) fuel 0

def M.impl_mapsBetween (a0 : Xcocones) (a1 : XCone) (a2 : XCone) : Option ((List Int) × Int) :=
  (M.impl_coneCode a0 ([a1, a2] : List XCone)).bind fun v1 =>
  if v1 != 0 then
    some (([] : List Int), v1)
  else
    (M.impl_cocones_maps a0 a1 a2).bind fun v3 =>
    some (v3, 0)

def M.impl_CoconeMaps (a0 : XFunctor) (a1 : XCone) (a2 : XCone) : Option ((List Int) × Int) :=
  (M.impl_Functor_isFunctor a0).bind fun v1 =>
  if v1 then
    (M.impl_coconesOf a0).bind fun v3 =>
    (M.impl_mapsBetween (⟨v3⟩ : Xcocones) a1 a2).bind fun v4 =>
    some (v4.1, v4.2)
  else
    some (([] : List Int), 1)

def M.laws_markCone (a0 : XCone) (a1 : Int) : Option (Int × XCone) :=
  (M.laws_markInt64S a0.Legs a1).bind fun v1 =>
  some (v1.1, (⟨a0.Apex, v1.2⟩ : XCone))

def M.laws_FnExactCoconeMaps (a0 : XFunctor) (a1 : XCone) (a2 : XCone) : Option Bool :=
  (M.laws_szFunctor a0 1048576).bind fun v1 =>
  if decide (v1 < 0) then
    some true
  else
    (M.laws_szCone a1 v1).bind fun v3 =>
    if decide (v3 < 0) then
      some true
    else
      (M.laws_szCone a2 v3).bind fun v5 =>
      if decide (v5 < 0) then
        some true
      else
        (M.laws_toFunctor a0).bind fun v7 =>
        (M.laws_toCone a1).bind fun v8 =>
        (M.laws_toCone a2).bind fun v9 =>
        (M.spec_CoconeMaps v7 v8 v9).bind fun v10 =>
        (M.impl_CoconeMaps v7 v8 v9).bind fun v11 =>
        (M.laws_eqInt64S v11.1 v10.1).bind fun v12 =>
        if v12 then
          if v11.2 != v10.2 then
            some false
          else
            (M.laws_eqFunctor v7 v7).bind fun v15 =>
            if v15 then
              (M.laws_eqCone v8 v8).bind fun v17 =>
              if v17 then
                (M.laws_eqCone v9 v9).bind fun v19 =>
                if v19 then
                  (M.laws_markFunctor v7 1).bind fun v21 =>
                  (M.laws_markCone v8 v21.1).bind fun v22 =>
                  (M.laws_markCone v9 v22.1).bind fun v23 =>
                  if decide (v23.1 < 0) then
                    some false
                  else
                    (M.laws_markInt64S v11.1 1).bind fun v25 =>
                    (M.laws_heldInt64S v25.2 1).bind fun v26 =>
                    if decide (v26 < 0) then
                      some false
                    else
                      if v26 != v25.1 then
                        some false
                      else
                        some true
                else
                  some false
              else
                some false
            else
              some false
        else
          some false

end Go.Gx
