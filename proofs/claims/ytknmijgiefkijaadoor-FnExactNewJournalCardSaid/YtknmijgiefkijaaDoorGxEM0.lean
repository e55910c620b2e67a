/- Laid together: part 0. -/
import Derived.Test.YtknmijgiefkijaaDoorGxE2
import Derived.Lib.Join
/- Models of the functions. Printed by wip/gen. -/
namespace Go.Gx

structure XCategory where
  Objects : Int
  From : List Int
  To : List Int
  Identity : List Int
  Composites : List (List Int)
def R.XCategory (x : XCategory) : Prop := (I64 x.Objects) ∧ (AllL I64 x.From) ∧ (AllL I64 x.To) ∧ (AllL I64 x.Identity) ∧ (AllL (AllL I64) x.Composites)
structure XFunctor where
  Source : XCategory
  Target : XCategory
  Objects : List Int
  Arrows : List Int
def R.XFunctor (x : XFunctor) : Prop := (R.XCategory x.Source) ∧ (R.XCategory x.Target) ∧ (AllL I64 x.Objects) ∧ (AllL I64 x.Arrows)
structure Xends where
  from_ : Int
  to_ : Int
def R.Xends (x : Xends) : Prop := (I64 x.from_) ∧ (I64 x.to_)
def M.laws_szInt64S (a0 : List Int) (a1 : Int) : Option Int :=
  if decide ((IntKind.i64.wrap (a1 - (a0.length : Int))) < 0) then
    some (-1)
  else
    some (IntKind.i64.wrap (a1 - (a0.length : Int)))

def M.spec_l01In (a0 : Int) (a1 : Int) (a2 : Int) : Option Bool :=
  if decide (a0 ≥ a1) then
    some (decide (a0 ≤ a2))
  else
    some false

def M.spec_l01Map (a0 : Int) (a1 : List Int) : Option Bool :=
  iter (fun (s1 : Int) next2 =>
    if decide (s1 < (a1.length : Int)) then
      (idx a1 s1).bind fun y6 =>
      if decide (y6 < 0) then
        some false
      else
        if decide (y6 ≥ a0) then
          some false
        else
          next2 (IntKind.i64.wrap (s1 + 1))
    else
      some true) fuel 0

def M.laws_toInt64S (a0 : List Int) : Option (List Int) :=
  chk ((0 : Int) ≤ (a0.length : Int) ∧ (a0.length : Int) ≤ (lim : Int)) (
    iter (fun (s2 : (List Int) × Int) next3 =>
      if decide (s2.2 < (a0.length : Int)) then
        (idx a0 s2.2).bind fun y7 =>
        (idx s2.1 s2.2).bind fun _ =>
        next3 (s2.1.set s2.2.toNat y7, IntKind.i64.wrap (s2.2 + 1))
      else
        some s2.1) fuel ((List.replicate (a0.length : Int).toNat (0 : Int)), 0))

def M.impl_inRange (a0 : Int) (a1 : Int) (a2 : Int) : Option Bool :=
  if decide (a0 ≥ a1) then
    some (decide (a0 ≤ a2))
  else
    some false

def M.impl_within (a0 : List Int) (a1 : Int) : Option Bool :=
  iter (fun (s1 : Int) next2 =>
    if decide (s1 < (a0.length : Int)) then
      (idx a0 s1).bind fun y6 =>
      (M.impl_inRange y6 0 (IntKind.i64.wrap (a1 - 1))).bind fun v7 =>
      if v7 then
        next2 (IntKind.i64.wrap (s1 + 1))
      else
        some false
    else
      some true) fuel 0

def M.impl_Category_ends (a0 : XCategory) (a1 : Int) : Option Xends :=
  (idx a0.From a1).bind fun y1 =>
  (idx a0.To a1).bind fun y2 =>
  some (⟨y1, y2⟩ : Xends)

def M.impl_Category_then (a0 : XCategory) (a1 : Int) (a2 : Int) : Option Int :=
  (idx a0.Composites a1).bind fun y1 =>
  (idx y1 a2).bind fun y2 =>
  some y2

def M.laws_eqInt64S (a0 : List Int) (a1 : List Int) : Option Bool :=
  if (a0.length : Int) != (a1.length : Int) then
    some false
  else
    iter (fun (s2 : Int) next3 =>
      if decide (s2 < (a0.length : Int)) then
        (idx a0 s2).bind fun y7 =>
        (idx a1 s2).bind fun y8 =>
        if y7 != y8 then
          some false
        else
          next3 (IntKind.i64.wrap (s2 + 1))
      else
        some true) fuel 0

end Go.Gx

/- Models of the functions. Printed by wip/gen. -/
namespace Go.Gx

end Go.Gx

/- Models of the functions. Printed by wip/gen. -/
namespace Go.Gx

structure XSetFunctor where
  Shape : XCategory
  Sizes : List Int
  Actions : List (List Int)
def R.XSetFunctor (x : XSetFunctor) : Prop := (R.XCategory x.Shape) ∧ (AllL I64 x.Sizes) ∧ (AllL (AllL I64) x.Actions)
structure XSetMap where
  Source : XSetFunctor
  Target : XSetFunctor
  Parts : List (List Int)
def R.XSetMap (x : XSetMap) : Prop := (R.XSetFunctor x.Source) ∧ (R.XSetFunctor x.Target) ∧ (AllL (AllL I64) x.Parts)
end Go.Gx

/- Models of the functions. Printed by wip/gen. -/
namespace Go.Gx

structure XPath where
  Start : Int
  Edges : List Int
def eXPath : Enc XPath := (eA (eC eI XPath.Start) (eC (eS eI) XPath.Edges))
theorem eXPath_ok : EncOk eXPath := (eA_ok (eC_ok eI_ok _) (eC_ok (eS_ok eI_ok) _))
def R.XPath (x : XPath) : Prop := (I64 x.Start) ∧ (AllL I64 x.Edges)
structure XSchema where
  Nodes : Int
  From : List Int
  To : List Int
  Left : List XPath
  Right : List XPath
def eXSchema : Enc XSchema := (eA (eC eI XSchema.Nodes) (eA (eC (eS eI) XSchema.From) (eA (eC (eS eI) XSchema.To) (eA (eC (eS eXPath) XSchema.Left) (eC (eS eXPath) XSchema.Right)))))
def R.XSchema (x : XSchema) : Prop := (I64 x.Nodes) ∧ (AllL I64 x.From) ∧ (AllL I64 x.To) ∧ (AllL R.XPath x.Left) ∧ (AllL R.XPath x.Right)
def M.laws_szPath (a0 : XPath) (a1 : Int) : Option Int :=
  (M.laws_szInt64S a0.Edges a1).bind fun v1 =>
  if decide (v1 < 0) then
    some (-1)
  else
    some v1

def M.laws_szPathS (a0 : List XPath) (a1 : Int) : Option Int :=
  if decide ((IntKind.i64.wrap (a1 - (a0.length : Int))) < 0) then
    some (-1)
  else
    iter (fun (s2 : Int × Int) next3 =>
      if decide (s2.2 < (a0.length : Int)) then
        (idx a0 s2.2).bind fun y7 =>
        (M.laws_szPath y7 s2.1).bind fun v8 =>
        if decide (v8 < 0) then
          some (-1)
        else
          next3 (v8, IntKind.i64.wrap (s2.2 + 1))
      else
        some s2.1) fuel (IntKind.i64.wrap (a1 - (a0.length : Int)), 0)

def M.laws_szSchema (a0 : XSchema) (a1 : Int) : Option Int :=
  (M.laws_szInt64S a0.From a1).bind fun v1 =>
  if decide (v1 < 0) then
    some (-1)
  else
    (M.laws_szInt64S a0.To v1).bind fun v3 =>
    if decide (v3 < 0) then
      some (-1)
    else
      (M.laws_szPathS a0.Left v3).bind fun v5 =>
      if decide (v5 < 0) then
        some (-1)
      else
        (M.laws_szPathS a0.Right v5).bind fun v7 =>
        if decide (v7 < 0) then
          some (-1)
        else
          some v7

def M.spec_l36Path (a0 : XSchema) (a1 : XPath) : Option Bool :=
  (M.spec_l01In a1.Start 0 (IntKind.i64.wrap (a0.Nodes - 1))).bind fun v1 =>
  if v1 then
    if decide ((a1.Edges.length : Int) > 6) then
      some false
    else
      (M.spec_l01Map (a0.From.length : Int) a1.Edges).bind fun v4 =>
      if v4 then
        iter (fun (s6 : Int × Int) next7 =>
          if decide (s6.2 < (a1.Edges.length : Int)) then
            (idx a1.Edges s6.2).bind fun y11 =>
            (idx a0.From y11).bind fun y12 =>
            if y12 != s6.1 then
              some false
            else
              (idx a0.To y11).bind fun y14 =>
              next7 (y14, IntKind.i64.wrap (s6.2 + 1))
          else
            some true) fuel (a1.Start, 0)
      else
        some false
  else
    some false

def M.spec_l36End (a0 : XSchema) (a1 : XPath) : Option Int :=
  if (a1.Edges.length : Int) == 0 then
    some a1.Start
  else
    (idx a1.Edges (IntKind.i64.wrap ((a1.Edges.length : Int) - 1))).bind fun y2 =>
    (idx a0.To y2).bind fun y3 =>
    some y3

def M.spec_IsSchema (a0 : XSchema) : Option Bool :=
  (M.spec_l01In a0.Nodes 0 8).bind fun v1 =>
  if v1 then
    if decide ((a0.From.length : Int) > 8) then
      some false
    else
      if (a0.To.length : Int) != (a0.From.length : Int) then
        some false
      else
        (M.spec_l01Map a0.Nodes a0.From).bind fun v5 =>
        if v5 then
          (M.spec_l01Map a0.Nodes a0.To).bind fun v7 =>
          if v7 then
            if decide ((a0.Left.length : Int) > 8) then
              some false
            else
              if (a0.Right.length : Int) != (a0.Left.length : Int) then
                some false
              else
                iter (fun (s11 : Int) next12 =>
                  if decide (s11 < (a0.Left.length : Int)) then
                    (idx a0.Left s11).bind fun y16 =>
                    (idx a0.Right s11).bind fun y17 =>
                    (M.spec_l36Path a0 y16).bind fun v18 =>
                    if v18 then
                      (M.spec_l36Path a0 y17).bind fun v20 =>
                      if v20 then
                        if y16.Start != y17.Start then
                          some false
                        else
                          (M.spec_l36End a0 y16).bind fun v23 =>
                          (M.spec_l36End a0 y17).bind fun v24 =>
                          if v23 != v24 then
                            some false
                          else
                            next12 (IntKind.i64.wrap (s11 + 1))
                      else
                        some false
                    else
                      some false
                  else
                    some true) fuel 0
          else
            some false
        else
          some false
  else
    some false

def M.laws_toPath (a0 : XPath) : Option XPath :=
  (M.laws_toInt64S a0.Edges).bind fun v1 =>
  some (⟨a0.Start, v1⟩ : XPath)

def M.laws_toPathS (a0 : List XPath) : Option (List XPath) :=
  chk ((0 : Int) ≤ (a0.length : Int) ∧ (a0.length : Int) ≤ (lim : Int)) (
    iter (fun (s2 : (List XPath) × Int) next3 =>
      if decide (s2.2 < (a0.length : Int)) then
        (idx a0 s2.2).bind fun y7 =>
        (M.laws_toPath y7).bind fun v8 =>
        (idx s2.1 s2.2).bind fun _ =>
        next3 (s2.1.set s2.2.toNat v8, IntKind.i64.wrap (s2.2 + 1))
      else
        some s2.1) fuel ((List.replicate (a0.length : Int).toNat (⟨0, []⟩ : XPath)), 0))

def M.laws_toSchema (a0 : XSchema) : Option XSchema :=
  (M.laws_toInt64S a0.From).bind fun v1 =>
  (M.laws_toInt64S a0.To).bind fun v2 =>
  (M.laws_toPathS a0.Left).bind fun v3 =>
  (M.laws_toPathS a0.Right).bind fun v4 =>
  some (⟨a0.Nodes, v1, v2, v3, v4⟩ : XSchema)

def M.impl_Schema_follow (a0 : XSchema) (a1 : Int) (a2 : List Int) : Option (Int × Bool) :=
  iter (fun (s1 : Int × Int) next2 =>
    if decide (s1.2 < (a2.length : Int)) then
      (idx a2 s1.2).bind fun y6 =>
      (M.impl_inRange y6 0 (IntKind.i64.wrap ((a0.From.length : Int) - 1))).bind fun v7 =>
      if v7 then
        (idx a0.From y6).bind fun y9 =>
        if y9 != s1.1 then
          some (0, false)
        else
          (idx a0.To y6).bind fun y11 =>
          next2 (y11, IntKind.i64.wrap (s1.2 + 1))
      else
        some (0, false)
    else
      some (s1.1, true)) fuel (a1, 0)

def M.impl_Schema_end (a0 : XSchema) (a1 : XPath) : Option (Int × Bool) :=
  (M.impl_inRange a1.Start 0 (IntKind.i64.wrap (a0.Nodes - 1))).bind fun v1 =>
  if v1 then
    if decide ((a1.Edges.length : Int) > 6) then
      some (0, false)
    else
      (M.impl_Schema_follow a0 a1.Start a1.Edges).bind fun v4 =>
      some (v4.1, v4.2)
  else
    some (0, false)

def M.impl_Schema_isSchema (a0 : XSchema) : Option Bool :=
  (M.impl_inRange a0.Nodes 0 8).bind fun v1 =>
  if v1 then
    if decide ((a0.From.length : Int) > 8) then
      some false
    else
      if (a0.To.length : Int) != (a0.From.length : Int) then
        some false
      else
        (M.impl_within a0.From a0.Nodes).bind fun v5 =>
        if v5 then
          (M.impl_within a0.To a0.Nodes).bind fun v7 =>
          if v7 then
            if decide ((a0.Left.length : Int) > 8) then
              some false
            else
              if (a0.Right.length : Int) != (a0.Left.length : Int) then
                some false
              else
                iter (fun (s11 : Int) next12 =>
                  if decide (s11 < (a0.Left.length : Int)) then
                    (idx a0.Left s11).bind fun y16 =>
                    (idx a0.Right s11).bind fun y17 =>
                    (M.impl_Schema_end a0 y16).bind fun v18 =>
                    (M.impl_Schema_end a0 y17).bind fun v19 =>
                    if v18.2 then
                      if v19.2 then
                        if y16.Start != y17.Start then
                          some false
                        else
                          if v18.1 != v19.1 then
                            some false
                          else
                            next12 (IntKind.i64.wrap (s11 + 1))
                      else
                        some false
                    else
                      some false
                  else
                    some true) fuel 0
          else
            some false
        else
          some false
  else
    some false

def M.laws_eqPath (a0 : XPath) (a1 : XPath) : Option Bool :=
  if a0.Start != a1.Start then
    some false
  else
    (M.laws_eqInt64S a0.Edges a1.Edges).bind fun v2 =>
    if v2 then
      some true
    else
      some false

def M.laws_eqPathS (a0 : List XPath) (a1 : List XPath) : Option Bool :=
  if (a0.length : Int) != (a1.length : Int) then
    some false
  else
    iter (fun (s2 : Int) next3 =>
      if decide (s2 < (a0.length : Int)) then
        (idx a0 s2).bind fun y7 =>
        (idx a1 s2).bind fun y8 =>
        (M.laws_eqPath y7 y8).bind fun v9 =>
        if v9 then
          next3 (IntKind.i64.wrap (s2 + 1))
        else
          some false
      else
        some true) fuel 0

def M.laws_eqSchema (a0 : XSchema) (a1 : XSchema) : Option Bool :=
  if a0.Nodes != a1.Nodes then
    some false
  else
    (M.laws_eqInt64S a0.From a1.From).bind fun v2 =>
    if v2 then
      (M.laws_eqInt64S a0.To a1.To).bind fun v4 =>
      if v4 then
        (M.laws_eqPathS a0.Left a1.Left).bind fun v6 =>
        if v6 then
          (M.laws_eqPathS a0.Right a1.Right).bind fun v8 =>
          if v8 then
            some true
          else
            some false
        else
          some false
      else
        some false
    else
      some false

end Go.Gx

/- A model of strings.Join. -/
namespace Go.Gx

def joinS (l : List ByteArray) (sep : ByteArray) : List UInt8 := Lib.join (l.map (·.data.toList)) sep.data.toList

def M.strings_Join (a0 : List ByteArray) (a1 : ByteArray) : Option ByteArray :=
  chk (a0.length ≤ 140737488355328 ∧ (joinS a0 a1).length ≤ 140737488355328) (some ⟨(joinS a0 a1).toArray⟩)

end Go.Gx

/- Models of the functions. Printed by wip/gen. -/
namespace Go.Gx

def M.spec_l01Dec_n : Nat → Int → Option ByteArray
  | 0, _ => none
  | k + 1, a0 =>
    if decide (a0 < 10) then
      some (strI ([IntKind.u8.wrap (IntKind.i64.wrap (48 + a0))] : List Int))
    else
      (M.spec_l01Dec_n k (IntKind.i64.wrap (a0.tdiv 10))).bind fun v2 =>
      chk (((v2.size + (strI ([IntKind.u8.wrap (IntKind.i64.wrap (48 + (a0.tmod 10)))] : List Int)).size : Nat) : Int) ≤ IntKind.i64.max) (
        some (v2 ++ (strI ([IntKind.u8.wrap (IntKind.i64.wrap (48 + (a0.tmod 10)))] : List Int))))
def M.spec_l01Dec (a0 : Int) : Option ByteArray := M.spec_l01Dec_n fuel a0

def M.spec_l36Text (a0 : XPath) : Option ByteArray :=
  (M.spec_l01Dec a0.Start).bind fun v1 =>
  chk ((((bstr [64]).size + v1.size : Nat) : Int) ≤ IntKind.i64.max) (
    iter (fun (s3 : ByteArray × Int) next4 =>
      if decide (s3.2 < (a0.Edges.length : Int)) then
        (idx a0.Edges s3.2).bind fun y8 =>
        chk ((0 : Int) ≤ y8 ∧ y8 ≤ (IntKind.i64.wrap (y8 + 1)) ∧ (IntKind.i64.wrap (y8 + 1)) ≤ ((bstr [97, 98, 99, 100, 101, 102, 103, 104]).size : Int)) (
          chk (((s3.1.size + ((bstr [97, 98, 99, 100, 101, 102, 103, 104]).extract y8.toNat (IntKind.i64.wrap (y8 + 1)).toNat).size : Nat) : Int) ≤ IntKind.i64.max) (
            next4 (s3.1 ++ ((bstr [97, 98, 99, 100, 101, 102, 103, 104]).extract y8.toNat (IntKind.i64.wrap (y8 + 1)).toNat), IntKind.i64.wrap (s3.2 + 1))))
      else
        some s3.1) fuel ((bstr [64]) ++ v1, 0))

def M.spec_l36Whole (a0 : XSchema) : Option ByteArray :=
  iter (fun (s1 : ByteArray × Int) next2 =>
    if decide (s1.2 < (a0.From.length : Int)) then
      chk (((s1.1.size + (bstr [32]).size : Nat) : Int) ≤ IntKind.i64.max) (
        (idx a0.From s1.2).bind fun y7 =>
        (M.spec_l01Dec y7).bind fun v8 =>
        chk ((((s1.1 ++ (bstr [32])).size + v8.size : Nat) : Int) ≤ IntKind.i64.max) (
          chk (((((s1.1 ++ (bstr [32])) ++ v8).size + (bstr [62]).size : Nat) : Int) ≤ IntKind.i64.max) (
            (idx a0.To s1.2).bind fun y11 =>
            (M.spec_l01Dec y11).bind fun v12 =>
            chk ((((((s1.1 ++ (bstr [32])) ++ v8) ++ (bstr [62])).size + v12.size : Nat) : Int) ≤ IntKind.i64.max) (
              next2 ((((s1.1 ++ (bstr [32])) ++ v8) ++ (bstr [62])) ++ v12, IntKind.i64.wrap (s1.2 + 1))))))
    else
      iter (fun (s14 : ByteArray × Int) next15 =>
        if decide (s14.2 < (a0.Left.length : Int)) then
          chk (((s14.1.size + (bstr [32]).size : Nat) : Int) ≤ IntKind.i64.max) (
            (idx a0.Left s14.2).bind fun y20 =>
            (M.spec_l36Text y20).bind fun v21 =>
            chk ((((s14.1 ++ (bstr [32])).size + v21.size : Nat) : Int) ≤ IntKind.i64.max) (
              chk (((((s14.1 ++ (bstr [32])) ++ v21).size + (bstr [61]).size : Nat) : Int) ≤ IntKind.i64.max) (
                (idx a0.Right s14.2).bind fun y24 =>
                (M.spec_l36Text y24).bind fun v25 =>
                chk ((((((s14.1 ++ (bstr [32])) ++ v21) ++ (bstr [61])).size + v25.size : Nat) : Int) ≤ IntKind.i64.max) (
                  next15 ((((s14.1 ++ (bstr [32])) ++ v21) ++ (bstr [61])) ++ v25, IntKind.i64.wrap (s14.2 + 1))))))
        else
          joinM (fun (s27 : ByteArray) =>
            if s14.1.toList == (bstr []).toList then
              (M.spec_l01Dec a0.Nodes).bind fun v31 =>
              chk (((v31.size + (bstr [32, 124]).size : Nat) : Int) ≤ IntKind.i64.max) (
                chk ((((v31 ++ (bstr [32, 124])).size + s27.size : Nat) : Int) ≤ IntKind.i64.max) (
                  chk (((((v31 ++ (bstr [32, 124])) ++ s27).size + (bstr [32, 124]).size : Nat) : Int) ≤ IntKind.i64.max) (
                    chk ((((((v31 ++ (bstr [32, 124])) ++ s27) ++ (bstr [32, 124])).size + (bstr [32, 45]).size : Nat) : Int) ≤ IntKind.i64.max) (
                      some ((((v31 ++ (bstr [32, 124])) ++ s27) ++ (bstr [32, 124])) ++ (bstr [32, 45]))))))
            else
              (M.spec_l01Dec a0.Nodes).bind fun v36 =>
              chk (((v36.size + (bstr [32, 124]).size : Nat) : Int) ≤ IntKind.i64.max) (
                chk ((((v36 ++ (bstr [32, 124])).size + s27.size : Nat) : Int) ≤ IntKind.i64.max) (
                  chk (((((v36 ++ (bstr [32, 124])) ++ s27).size + (bstr [32, 124]).size : Nat) : Int) ≤ IntKind.i64.max) (
                    chk ((((((v36 ++ (bstr [32, 124])) ++ s27) ++ (bstr [32, 124])).size + s14.1.size : Nat) : Int) ≤ IntKind.i64.max) (
                      some ((((v36 ++ (bstr [32, 124])) ++ s27) ++ (bstr [32, 124])) ++ s14.1)))))) fun k28 =>
          if s1.1.toList == (bstr []).toList then
            k28 (bstr [32, 45])
          else
            k28 s1.1) fuel ((bstr []), 0)) fuel ((bstr []), 0)

def M.spec_NewJournal (a0 : XSchema) : Option (ByteArray × Int) :=
  (M.spec_IsSchema a0).bind fun v1 =>
  if v1 then
    (M.spec_l36Whole a0).bind fun v3 =>
    chk ((((bstr [115, 99, 104, 101, 109, 97, 32]).size + v3.size : Nat) : Int) ≤ IntKind.i64.max) (
      chk (((((bstr [115, 99, 104, 101, 109, 97, 32]) ++ v3).size + (bstr [10]).size : Nat) : Int) ≤ IntKind.i64.max) (
        some (((bstr [115, 99, 104, 101, 109, 97, 32]) ++ v3) ++ (bstr [10]), 0)))
  else
    some ((bstr []), 1)

def M.internal_strconv_small (a0 : Int) : Option ByteArray :=
  if decide (a0 < 10) then
    chk ((0 : Int) ≤ a0 ∧ a0 ≤ (IntKind.i64.wrap (a0 + 1)) ∧ (IntKind.i64.wrap (a0 + 1)) ≤ ((bstr [48, 49, 50, 51, 52, 53, 54, 55, 56, 57, 97, 98, 99, 100, 101, 102, 103, 104, 105, 106, 107, 108, 109, 110, 111, 112, 113, 114, 115, 116, 117, 118, 119, 120, 121, 122]).size : Int)) (
      some ((bstr [48, 49, 50, 51, 52, 53, 54, 55, 56, 57, 97, 98, 99, 100, 101, 102, 103, 104, 105, 106, 107, 108, 109, 110, 111, 112, 113, 114, 115, 116, 117, 118, 119, 120, 121, 122]).extract a0.toNat (IntKind.i64.wrap (a0 + 1)).toNat))
  else
    chk ((0 : Int) ≤ (IntKind.i64.wrap (a0 * 2)) ∧ (IntKind.i64.wrap (a0 * 2)) ≤ (IntKind.i64.wrap ((IntKind.i64.wrap (a0 * 2)) + 2)) ∧ (IntKind.i64.wrap ((IntKind.i64.wrap (a0 * 2)) + 2)) ≤ ((bstr [48, 48, 48, 49, 48, 50, 48, 51, 48, 52, 48, 53, 48, 54, 48, 55, 48, 56, 48, 57, 49, 48, 49, 49, 49, 50, 49, 51, 49, 52, 49, 53, 49, 54, 49, 55, 49, 56, 49, 57, 50, 48, 50, 49, 50, 50, 50, 51, 50, 52, 50, 53, 50, 54, 50, 55, 50, 56, 50, 57, 51, 48, 51, 49, 51, 50, 51, 51, 51, 52, 51, 53, 51, 54, 51, 55, 51, 56, 51, 57, 52, 48, 52, 49, 52, 50, 52, 51, 52, 52, 52, 53, 52, 54, 52, 55, 52, 56, 52, 57, 53, 48, 53, 49, 53, 50, 53, 51, 53, 52, 53, 53, 53, 54, 53, 55, 53, 56, 53, 57, 54, 48, 54, 49, 54, 50, 54, 51, 54, 52, 54, 53, 54, 54, 54, 55, 54, 56, 54, 57, 55, 48, 55, 49, 55, 50, 55, 51, 55, 52, 55, 53, 55, 54, 55, 55, 55, 56, 55, 57, 56, 48, 56, 49, 56, 50, 56, 51, 56, 52, 56, 53, 56, 54, 56, 55, 56, 56, 56, 57, 57, 48, 57, 49, 57, 50, 57, 51, 57, 52, 57, 53, 57, 54, 57, 55, 57, 56, 57, 57]).size : Int)) (
      some ((bstr [48, 48, 48, 49, 48, 50, 48, 51, 48, 52, 48, 53, 48, 54, 48, 55, 48, 56, 48, 57, 49, 48, 49, 49, 49, 50, 49, 51, 49, 52, 49, 53, 49, 54, 49, 55, 49, 56, 49, 57, 50, 48, 50, 49, 50, 50, 50, 51, 50, 52, 50, 53, 50, 54, 50, 55, 50, 56, 50, 57, 51, 48, 51, 49, 51, 50, 51, 51, 51, 52, 51, 53, 51, 54, 51, 55, 51, 56, 51, 57, 52, 48, 52, 49, 52, 50, 52, 51, 52, 52, 52, 53, 52, 54, 52, 55, 52, 56, 52, 57, 53, 48, 53, 49, 53, 50, 53, 51, 53, 52, 53, 53, 53, 54, 53, 55, 53, 56, 53, 57, 54, 48, 54, 49, 54, 50, 54, 51, 54, 52, 54, 53, 54, 54, 54, 55, 54, 56, 54, 57, 55, 48, 55, 49, 55, 50, 55, 51, 55, 52, 55, 53, 55, 54, 55, 55, 55, 56, 55, 57, 56, 48, 56, 49, 56, 50, 56, 51, 56, 52, 56, 53, 56, 54, 56, 55, 56, 56, 56, 57, 57, 48, 57, 49, 57, 50, 57, 51, 57, 52, 57, 53, 57, 54, 57, 55, 57, 56, 57, 57]).extract (IntKind.i64.wrap (a0 * 2)).toNat (IntKind.i64.wrap ((IntKind.i64.wrap (a0 * 2)) + 2)).toNat))

def M.internal_strconv_FormatInt (a0 : Int) (a1 : Int) : Option ByteArray :=
  if a1 == 10 then
    joinM (fun (_ : Unit) =>
      none) fun k3 =>
    if decide ((0 : Int) ≤ a0) then
      if decide (a0 < 100) then
        (M.internal_strconv_small a0).bind fun v7 =>
        some v7
      else
        k3 ()
    else
      k3 ()
  else
    none

def M.strconv_FormatInt (a0 : Int) (a1 : Int) : Option ByteArray :=
  (M.internal_strconv_FormatInt a0 a1).bind fun v1 =>
  some v1

def M.impl_Path_text (a0 : XPath) : Option ByteArray :=
  (M.strconv_FormatInt a0.Start 10).bind fun v1 =>
  chk ((((bstr [64]).size + v1.size : Nat) : Int) ≤ IntKind.i64.max) (
    iter (fun (s3 : (List Int) × Int) next4 =>
      if decide (s3.2 < (a0.Edges.length : Int)) then
        (idx a0.Edges s3.2).bind fun y8 =>
        chk (s3.1.length + (([IntKind.u8.wrap (IntKind.i64.wrap (97 + y8))] : List Int).length) ≤ lim) (
          next4 (s3.1 ++ ([IntKind.u8.wrap (IntKind.i64.wrap (97 + y8))] : List Int), IntKind.i64.wrap (s3.2 + 1)))
      else
        some (strI s3.1)) fuel ((bytesI ((bstr [64]) ++ v1)), 0))

def M.impl_part (a0 : List ByteArray) : Option ByteArray :=
  if (a0.length : Int) == 0 then
    some (bstr [45])
  else
    (M.strings_Join a0 (bstr [32])).bind fun v2 =>
    some v2

def M.impl_Schema_text (a0 : XSchema) : Option ByteArray :=
  iter (fun (s1 : (List ByteArray) × Int) next2 =>
    if decide (s1.2 < (a0.From.length : Int)) then
      (idx a0.From s1.2).bind fun y6 =>
      (M.strconv_FormatInt y6 10).bind fun v7 =>
      chk (((v7.size + (bstr [62]).size : Nat) : Int) ≤ IntKind.i64.max) (
        (idx a0.To s1.2).bind fun y9 =>
        (M.strconv_FormatInt y9 10).bind fun v10 =>
        chk ((((v7 ++ (bstr [62])).size + v10.size : Nat) : Int) ≤ IntKind.i64.max) (
          chk (s1.1.length + (([(v7 ++ (bstr [62])) ++ v10] : List ByteArray).length) ≤ lim) (
            next2 (s1.1 ++ ([(v7 ++ (bstr [62])) ++ v10] : List ByteArray), IntKind.i64.wrap (s1.2 + 1)))))
    else
      iter (fun (s13 : (List ByteArray) × Int) next14 =>
        if decide (s13.2 < (a0.Left.length : Int)) then
          (idx a0.Left s13.2).bind fun y18 =>
          (M.impl_Path_text y18).bind fun v19 =>
          chk (((v19.size + (bstr [61]).size : Nat) : Int) ≤ IntKind.i64.max) (
            (idx a0.Right s13.2).bind fun y21 =>
            (M.impl_Path_text y21).bind fun v22 =>
            chk ((((v19 ++ (bstr [61])).size + v22.size : Nat) : Int) ≤ IntKind.i64.max) (
              chk (s13.1.length + (([(v19 ++ (bstr [61])) ++ v22] : List ByteArray).length) ≤ lim) (
                next14 (s13.1 ++ ([(v19 ++ (bstr [61])) ++ v22] : List ByteArray), IntKind.i64.wrap (s13.2 + 1)))))
        else
          (M.strconv_FormatInt a0.Nodes 10).bind fun v25 =>
          (M.impl_part s1.1).bind fun v26 =>
          (M.impl_part s13.1).bind fun v27 =>
          (M.strings_Join ([v25, v26, v27] : List ByteArray) (bstr [32, 124, 32])).bind fun v28 =>
          some v28) fuel (([] : List ByteArray), 0)) fuel (([] : List ByteArray), 0)

def M.impl_newJournal (a0 : XSchema) : Option ByteArray :=
  (M.impl_Schema_text a0).bind fun v1 =>
  chk ((((bstr [115, 99, 104, 101, 109, 97, 32]).size + v1.size : Nat) : Int) ≤ IntKind.i64.max) (
    chk (((((bstr [115, 99, 104, 101, 109, 97, 32]) ++ v1).size + (bstr [10]).size : Nat) : Int) ≤ IntKind.i64.max) (
      some (((bstr [115, 99, 104, 101, 109, 97, 32]) ++ v1) ++ (bstr [10]))))

def M.impl_NewJournal (a0 : XSchema) : Option (ByteArray × Int) :=
  (M.impl_Schema_isSchema a0).bind fun v1 =>
  if v1 then
    (M.impl_newJournal a0).bind fun v3 =>
    some (v3, 0)
  else
    some ((bstr []), 1)

def M.laws_FnExactNewJournal (a0 : XSchema) : Option Bool :=
  (M.laws_szSchema a0 1048576).bind fun v1 =>
  if decide (v1 < 0) then
    some true
  else
    (M.laws_toSchema a0).bind fun v3 =>
    (M.spec_NewJournal v3).bind fun v4 =>
    (M.impl_NewJournal v3).bind fun v5 =>
    if v5.1.toList == v4.1.toList then
      if v5.2 != v4.2 then
        some false
      else
        (M.laws_eqSchema v3 v3).bind fun v8 =>
        if v8 then
          some true
        else
          some false
    else
      some false

end Go.Gx

/- Models of the functions. Printed by wip/gen. -/
namespace Go.Gx

structure XTransformation where
  Source : XFunctor
  Target : XFunctor
  Components : List Int
def R.XTransformation (x : XTransformation) : Prop := (R.XFunctor x.Source) ∧ (R.XFunctor x.Target) ∧ (AllL I64 x.Components)
end Go.Gx

/- Models of the functions. Printed by wip/gen. -/
namespace Go.Gx

end Go.Gx

/- Models of the functions. Printed by wip/gen. -/
namespace Go.Gx

end Go.Gx

/- Models of the functions. Printed by wip/gen. -/
namespace Go.Gx

end Go.Gx

/- Models of the functions. Printed by wip/gen. -/
namespace Go.Gx

end Go.Gx

/- Models of the functions. Printed by wip/gen. -/
namespace Go.Gx

structure XProfunctor where
  Source : XCategory
  Target : XCategory
  Sizes : List (List Int)
  Before : List (List (List Int))
  Behind : List (List (List Int))
def R.XProfunctor (x : XProfunctor) : Prop := (R.XCategory x.Source) ∧ (R.XCategory x.Target) ∧ (AllL (AllL I64) x.Sizes) ∧ (AllL (AllL (AllL I64)) x.Before) ∧ (AllL (AllL (AllL I64)) x.Behind)
end Go.Gx

/- Models of the functions. Printed by wip/gen. -/
namespace Go.Gx

end Go.Gx

/- Models of the functions. Printed by wip/gen. -/
namespace Go.Gx

end Go.Gx

/- Models of the functions. Printed by wip/gen. -/
namespace Go.Gx

end Go.Gx

/- Models of the functions. Printed by wip/gen. -/
namespace Go.Gx

end Go.Gx

/- Models of the functions. Printed by wip/gen. -/
namespace Go.Gx

end Go.Gx

/- Models of the functions. Printed by wip/gen. -/
namespace Go.Gx

end Go.Gx

/- Models of the functions. Printed by wip/gen. -/
namespace Go.Gx

end Go.Gx
