/- Laid together: part 0. -/
import Derived.Test.YtiikkfdehbcfaaaGxE1
/- Models of the functions. Printed by wip/gen. -/
namespace Go.Gx

structure XCategory where
  Objects : Int
  From : List Int
  To : List Int
  Identity : List Int
  Composites : List (List Int)
def R.XCategory (x : XCategory) : Prop := (I64 x.Objects) ∧ (AllL I64 x.From) ∧ (AllL I64 x.To) ∧ (AllL I64 x.Identity) ∧ (AllL (AllL I64) x.Composites)
structure XFunctor where
  Source : XCategory
  Target : XCategory
  Objects : List Int
  Arrows : List Int
def R.XFunctor (x : XFunctor) : Prop := (R.XCategory x.Source) ∧ (R.XCategory x.Target) ∧ (AllL I64 x.Objects) ∧ (AllL I64 x.Arrows)
structure Xends where
  from_ : Int
  to_ : Int
def R.Xends (x : Xends) : Prop := (I64 x.from_) ∧ (I64 x.to_)
def M.laws_szInt64S (a0 : List Int) (a1 : Int) : Option Int :=
  if decide ((IntKind.i64.wrap (a1 - (a0.length : Int))) < 0) then
    some (-1)
  else
    some (IntKind.i64.wrap (a1 - (a0.length : Int)))

def M.laws_szInt64SS (a0 : List (List Int)) (a1 : Int) : Option Int :=
  if decide ((IntKind.i64.wrap (a1 - (a0.length : Int))) < 0) then
    some (-1)
  else
    iter (fun (s2 : Int × Int) next3 =>
      if decide (s2.2 < (a0.length : Int)) then
        (idx a0 s2.2).bind fun y7 =>
        (M.laws_szInt64S y7 s2.1).bind fun v8 =>
        if decide (v8 < 0) then
          some (-1)
        else
          next3 (v8, IntKind.i64.wrap (s2.2 + 1))
      else
        some s2.1) fuel (IntKind.i64.wrap (a1 - (a0.length : Int)), 0)

def M.spec_l01In (a0 : Int) (a1 : Int) (a2 : Int) : Option Bool :=
  if decide (a0 ≥ a1) then
    some (decide (a0 ≤ a2))
  else
    some false

def M.spec_l01Map (a0 : Int) (a1 : List Int) : Option Bool :=
  iter (fun (s1 : Int) next2 =>
    if decide (s1 < (a1.length : Int)) then
      (idx a1 s1).bind fun y6 =>
      if decide (y6 < 0) then
        some false
      else
        if decide (y6 ≥ a0) then
          some false
        else
          next2 (IntKind.i64.wrap (s1 + 1))
    else
      some true) fuel 0

def M.spec_l01Own (a0 : List Int) : Option (List Int) :=
  chk (([] : List Int).length + a0.length ≤ lim) (
    some (([] : List Int) ++ a0))

def M.spec_l01Own2 (a0 : List (List Int)) : Option (List (List Int)) :=
  iter (fun (s1 : (List (List Int)) × Int) next2 =>
    if decide (s1.2 < (a0.length : Int)) then
      (idx a0 s1.2).bind fun y6 =>
      (M.spec_l01Own y6).bind fun v7 =>
      chk (s1.1.length + 1 ≤ lim) (
        next2 (s1.1 ++ [v7], IntKind.i64.wrap (s1.2 + 1)))
    else
      some s1.1) fuel (([] : List (List Int)), 0)

def M.laws_toInt64S (a0 : List Int) : Option (List Int) :=
  chk ((0 : Int) ≤ (a0.length : Int) ∧ (a0.length : Int) ≤ (lim : Int)) (
    iter (fun (s2 : (List Int) × Int) next3 =>
      if decide (s2.2 < (a0.length : Int)) then
        (idx a0 s2.2).bind fun y7 =>
        (idx s2.1 s2.2).bind fun _ =>
        next3 (s2.1.set s2.2.toNat y7, IntKind.i64.wrap (s2.2 + 1))
      else
        some s2.1) fuel ((List.replicate (a0.length : Int).toNat (0 : Int)), 0))

def M.laws_toInt64SS (a0 : List (List Int)) : Option (List (List Int)) :=
  chk ((0 : Int) ≤ (a0.length : Int) ∧ (a0.length : Int) ≤ (lim : Int)) (
    iter (fun (s2 : (List (List Int)) × Int) next3 =>
      if decide (s2.2 < (a0.length : Int)) then
        (idx a0 s2.2).bind fun y7 =>
        (M.laws_toInt64S y7).bind fun v8 =>
        (idx s2.1 s2.2).bind fun _ =>
        next3 (s2.1.set s2.2.toNat v8, IntKind.i64.wrap (s2.2 + 1))
      else
        some s2.1) fuel ((List.replicate (a0.length : Int).toNat ([] : List Int)), 0))

def M.impl_inRange (a0 : Int) (a1 : Int) (a2 : Int) : Option Bool :=
  if decide (a0 ≥ a1) then
    some (decide (a0 ≤ a2))
  else
    some false

def M.impl_within (a0 : List Int) (a1 : Int) : Option Bool :=
  iter (fun (s1 : Int) next2 =>
    if decide (s1 < (a0.length : Int)) then
      (idx a0 s1).bind fun y6 =>
      (M.impl_inRange y6 0 (IntKind.i64.wrap (a1 - 1))).bind fun v7 =>
      if v7 then
        next2 (IntKind.i64.wrap (s1 + 1))
      else
        some false
    else
      some true) fuel 0

def M.impl_Category_ends (a0 : XCategory) (a1 : Int) : Option Xends :=
  (idx a0.From a1).bind fun y1 =>
  (idx a0.To a1).bind fun y2 =>
  some (⟨y1, y2⟩ : Xends)

def M.impl_Category_then (a0 : XCategory) (a1 : Int) (a2 : Int) : Option Int :=
  (idx a0.Composites a1).bind fun y1 =>
  (idx y1 a2).bind fun y2 =>
  some y2

def M.impl_clone (a0 : List Int) : Option (List Int) :=
  chk (([] : List Int).length + a0.length ≤ lim) (
    some (([] : List Int) ++ a0))

def M.impl_clones (a0 : List (List Int)) : Option (List (List Int)) :=
  chk ((0 : Int) ≤ (a0.length : Int) ∧ (a0.length : Int) ≤ (lim : Int)) (
    iter (fun (s2 : (List (List Int)) × Int) next3 =>
      if decide (s2.2 < (a0.length : Int)) then
        (idx a0 s2.2).bind fun y7 =>
        (M.impl_clone y7).bind fun v8 =>
        chk (s2.1.length + 1 ≤ lim) (
          next3 (s2.1 ++ [v8], IntKind.i64.wrap (s2.2 + 1)))
      else
        some s2.1) fuel (([] : List (List Int)), 0))

def M.laws_eqInt64S (a0 : List Int) (a1 : List Int) : Option Bool :=
  if (a0.length : Int) != (a1.length : Int) then
    some false
  else
    iter (fun (s2 : Int) next3 =>
      if decide (s2 < (a0.length : Int)) then
        (idx a0 s2).bind fun y7 =>
        (idx a1 s2).bind fun y8 =>
        if y7 != y8 then
          some false
        else
          next3 (IntKind.i64.wrap (s2 + 1))
      else
        some true) fuel 0

def M.laws_eqInt64SS (a0 : List (List Int)) (a1 : List (List Int)) : Option Bool :=
  if (a0.length : Int) != (a1.length : Int) then
    some false
  else
    iter (fun (s2 : Int) next3 =>
      if decide (s2 < (a0.length : Int)) then
        (idx a0 s2).bind fun y7 =>
        (idx a1 s2).bind fun y8 =>
        (M.laws_eqInt64S y7 y8).bind fun v9 =>
        if v9 then
          next3 (IntKind.i64.wrap (s2 + 1))
        else
          some false
      else
        some true) fuel 0

def M.laws_markInt64S (a0 : List Int) (a1 : Int) : Option (Int × (List Int)) :=
  iter (fun (s1 : (List Int) × Int × Int) next2 =>
    if decide (s1.2.2 < (s1.1.length : Int)) then
      (idx s1.1 s1.2.2).bind fun _ =>
      next2 (s1.1.set s1.2.2.toNat s1.2.1, IntKind.i64.wrap (s1.2.1 + 1), IntKind.i64.wrap (s1.2.2 + 1))
    else
      some (s1.2.1, s1.1)) fuel (a0, a1, 0)

theorem M.len_markInt64S {a0 : List Int} {a1 : Int} {r : Int × (List Int)} (h : M.laws_markInt64S a0 a1 = some r) : a0.length = r.2.length := by
  unfold M.laws_markInt64S at h
  refine iter_pres (fun s => s.1.length = a0.length) (fun r => a0.length = r.2.length) ?_ _ _ _ rfl h
  intro s next r hs hn h
  try dsimp only at h
  split at h
  · obtain ⟨_, _, h⟩ := bind_some' h
    exact hn _ (by simpa using hs) h
  · obtain rfl := Option.some.inj h; exact hs.symm

def M.laws_markInt64SS (a0 : List (List Int)) (a1 : Int) : Option (Int × (List (List Int))) :=
  iter (fun (s1 : (List (List Int)) × Int × Int) next2 =>
    if decide (s1.2.2 < (s1.1.length : Int)) then
      (idx s1.1 s1.2.2).bind fun y6 =>
      (M.laws_markInt64S y6 s1.2.1).bind fun v7 =>
      next2 (s1.1.set s1.2.2.toNat v7.2, v7.1, IntKind.i64.wrap (s1.2.2 + 1))
    else
      some (s1.2.1, s1.1)) fuel (a0, a1, 0)

theorem M.len_markInt64SS {a0 : List (List Int)} {a1 : Int} {r : Int × (List (List Int))} (h : M.laws_markInt64SS a0 a1 = some r) : a0.length = r.2.length := by
  unfold M.laws_markInt64SS at h
  refine iter_pres (fun s => s.1.length = a0.length) (fun r => a0.length = r.2.length) ?_ _ _ _ rfl h
  intro s next r hs hn h
  try dsimp only at h
  split at h
  · obtain ⟨_, _, h⟩ := bind_some' h
    obtain ⟨_, _, h⟩ := bind_some' h
    exact hn _ (by simpa using hs) h
  · obtain rfl := Option.some.inj h; exact hs.symm

def M.laws_heldInt64S (a0 : List Int) (a1 : Int) : Option Int :=
  iter (fun (s1 : Int × Int) next2 =>
    if decide (s1.2 < (a0.length : Int)) then
      (idx a0 s1.2).bind fun y6 =>
      if y6 != s1.1 then
        some (-1)
      else
        next2 (IntKind.i64.wrap (s1.1 + 1), IntKind.i64.wrap (s1.2 + 1))
    else
      some s1.1) fuel (a1, 0)

def M.laws_heldInt64SS (a0 : List (List Int)) (a1 : Int) : Option Int :=
  iter (fun (s1 : Int × Int) next2 =>
    if decide (s1.2 < (a0.length : Int)) then
      (idx a0 s1.2).bind fun y6 =>
      (M.laws_heldInt64S y6 s1.1).bind fun v7 =>
      if decide (v7 < 0) then
        some (-1)
      else
        next2 (v7, IntKind.i64.wrap (s1.2 + 1))
    else
      some s1.1) fuel (a1, 0)

end Go.Gx

/- Models of the functions. Printed by wip/gen. -/
namespace Go.Gx

end Go.Gx

/- Models of the functions. Printed by wip/gen. -/
namespace Go.Gx

structure XSetFunctor where
  Shape : XCategory
  Sizes : List Int
  Actions : List (List Int)
def R.XSetFunctor (x : XSetFunctor) : Prop := (R.XCategory x.Shape) ∧ (AllL I64 x.Sizes) ∧ (AllL (AllL I64) x.Actions)
structure XSetMap where
  Source : XSetFunctor
  Target : XSetFunctor
  Parts : List (List Int)
def R.XSetMap (x : XSetMap) : Prop := (R.XSetFunctor x.Source) ∧ (R.XSetFunctor x.Target) ∧ (AllL (AllL I64) x.Parts)
def M.impl_isMapOf (a0 : List Int) (a1 : Int) (a2 : Int) : Option Bool :=
  if (a0.length : Int) == a1 then
    (M.impl_within a0 a2).bind fun v2 =>
    some v2
  else
    some false

end Go.Gx

/- Models of the functions. Printed by wip/gen. -/
namespace Go.Gx

structure XPath where
  Start : Int
  Edges : List Int
def eXPath : Enc XPath := (eA (eC eI XPath.Start) (eC (eS eI) XPath.Edges))
theorem eXPath_ok : EncOk eXPath := (eA_ok (eC_ok eI_ok _) (eC_ok (eS_ok eI_ok) _))
def R.XPath (x : XPath) : Prop := (I64 x.Start) ∧ (AllL I64 x.Edges)
structure XSchema where
  Nodes : Int
  From : List Int
  To : List Int
  Left : List XPath
  Right : List XPath
def eXSchema : Enc XSchema := (eA (eC eI XSchema.Nodes) (eA (eC (eS eI) XSchema.From) (eA (eC (eS eI) XSchema.To) (eA (eC (eS eXPath) XSchema.Left) (eC (eS eXPath) XSchema.Right)))))
def R.XSchema (x : XSchema) : Prop := (I64 x.Nodes) ∧ (AllL I64 x.From) ∧ (AllL I64 x.To) ∧ (AllL R.XPath x.Left) ∧ (AllL R.XPath x.Right)
def M.laws_szPath (a0 : XPath) (a1 : Int) : Option Int :=
  (M.laws_szInt64S a0.Edges a1).bind fun v1 =>
  if decide (v1 < 0) then
    some (-1)
  else
    some v1

def M.laws_szPathS (a0 : List XPath) (a1 : Int) : Option Int :=
  if decide ((IntKind.i64.wrap (a1 - (a0.length : Int))) < 0) then
    some (-1)
  else
    iter (fun (s2 : Int × Int) next3 =>
      if decide (s2.2 < (a0.length : Int)) then
        (idx a0 s2.2).bind fun y7 =>
        (M.laws_szPath y7 s2.1).bind fun v8 =>
        if decide (v8 < 0) then
          some (-1)
        else
          next3 (v8, IntKind.i64.wrap (s2.2 + 1))
      else
        some s2.1) fuel (IntKind.i64.wrap (a1 - (a0.length : Int)), 0)

def M.laws_szSchema (a0 : XSchema) (a1 : Int) : Option Int :=
  (M.laws_szInt64S a0.From a1).bind fun v1 =>
  if decide (v1 < 0) then
    some (-1)
  else
    (M.laws_szInt64S a0.To v1).bind fun v3 =>
    if decide (v3 < 0) then
      some (-1)
    else
      (M.laws_szPathS a0.Left v3).bind fun v5 =>
      if decide (v5 < 0) then
        some (-1)
      else
        (M.laws_szPathS a0.Right v5).bind fun v7 =>
        if decide (v7 < 0) then
          some (-1)
        else
          some v7

def M.spec_l36Path (a0 : XSchema) (a1 : XPath) : Option Bool :=
  (M.spec_l01In a1.Start 0 (IntKind.i64.wrap (a0.Nodes - 1))).bind fun v1 =>
  if v1 then
    if decide ((a1.Edges.length : Int) > 6) then
      some false
    else
      (M.spec_l01Map (a0.From.length : Int) a1.Edges).bind fun v4 =>
      if v4 then
        iter (fun (s6 : Int × Int) next7 =>
          if decide (s6.2 < (a1.Edges.length : Int)) then
            (idx a1.Edges s6.2).bind fun y11 =>
            (idx a0.From y11).bind fun y12 =>
            if y12 != s6.1 then
              some false
            else
              (idx a0.To y11).bind fun y14 =>
              next7 (y14, IntKind.i64.wrap (s6.2 + 1))
          else
            some true) fuel (a1.Start, 0)
      else
        some false
  else
    some false

def M.spec_l36End (a0 : XSchema) (a1 : XPath) : Option Int :=
  if (a1.Edges.length : Int) == 0 then
    some a1.Start
  else
    (idx a1.Edges (IntKind.i64.wrap ((a1.Edges.length : Int) - 1))).bind fun y2 =>
    (idx a0.To y2).bind fun y3 =>
    some y3

def M.spec_IsSchema (a0 : XSchema) : Option Bool :=
  (M.spec_l01In a0.Nodes 0 8).bind fun v1 =>
  if v1 then
    if decide ((a0.From.length : Int) > 8) then
      some false
    else
      if (a0.To.length : Int) != (a0.From.length : Int) then
        some false
      else
        (M.spec_l01Map a0.Nodes a0.From).bind fun v5 =>
        if v5 then
          (M.spec_l01Map a0.Nodes a0.To).bind fun v7 =>
          if v7 then
            if decide ((a0.Left.length : Int) > 8) then
              some false
            else
              if (a0.Right.length : Int) != (a0.Left.length : Int) then
                some false
              else
                iter (fun (s11 : Int) next12 =>
                  if decide (s11 < (a0.Left.length : Int)) then
                    (idx a0.Left s11).bind fun y16 =>
                    (idx a0.Right s11).bind fun y17 =>
                    (M.spec_l36Path a0 y16).bind fun v18 =>
                    if v18 then
                      (M.spec_l36Path a0 y17).bind fun v20 =>
                      if v20 then
                        if y16.Start != y17.Start then
                          some false
                        else
                          (M.spec_l36End a0 y16).bind fun v23 =>
                          (M.spec_l36End a0 y17).bind fun v24 =>
                          if v23 != v24 then
                            some false
                          else
                            next12 (IntKind.i64.wrap (s11 + 1))
                      else
                        some false
                    else
                      some false
                  else
                    some true) fuel 0
          else
            some false
        else
          some false
  else
    some false

def M.laws_toPath (a0 : XPath) : Option XPath :=
  (M.laws_toInt64S a0.Edges).bind fun v1 =>
  some (⟨a0.Start, v1⟩ : XPath)

def M.laws_toPathS (a0 : List XPath) : Option (List XPath) :=
  chk ((0 : Int) ≤ (a0.length : Int) ∧ (a0.length : Int) ≤ (lim : Int)) (
    iter (fun (s2 : (List XPath) × Int) next3 =>
      if decide (s2.2 < (a0.length : Int)) then
        (idx a0 s2.2).bind fun y7 =>
        (M.laws_toPath y7).bind fun v8 =>
        (idx s2.1 s2.2).bind fun _ =>
        next3 (s2.1.set s2.2.toNat v8, IntKind.i64.wrap (s2.2 + 1))
      else
        some s2.1) fuel ((List.replicate (a0.length : Int).toNat (⟨0, []⟩ : XPath)), 0))

def M.laws_toSchema (a0 : XSchema) : Option XSchema :=
  (M.laws_toInt64S a0.From).bind fun v1 =>
  (M.laws_toInt64S a0.To).bind fun v2 =>
  (M.laws_toPathS a0.Left).bind fun v3 =>
  (M.laws_toPathS a0.Right).bind fun v4 =>
  some (⟨a0.Nodes, v1, v2, v3, v4⟩ : XSchema)

def M.impl_Schema_follow (a0 : XSchema) (a1 : Int) (a2 : List Int) : Option (Int × Bool) :=
  iter (fun (s1 : Int × Int) next2 =>
    if decide (s1.2 < (a2.length : Int)) then
      (idx a2 s1.2).bind fun y6 =>
      (M.impl_inRange y6 0 (IntKind.i64.wrap ((a0.From.length : Int) - 1))).bind fun v7 =>
      if v7 then
        (idx a0.From y6).bind fun y9 =>
        if y9 != s1.1 then
          some (0, false)
        else
          (idx a0.To y6).bind fun y11 =>
          next2 (y11, IntKind.i64.wrap (s1.2 + 1))
      else
        some (0, false)
    else
      some (s1.1, true)) fuel (a1, 0)

def M.impl_Schema_end (a0 : XSchema) (a1 : XPath) : Option (Int × Bool) :=
  (M.impl_inRange a1.Start 0 (IntKind.i64.wrap (a0.Nodes - 1))).bind fun v1 =>
  if v1 then
    if decide ((a1.Edges.length : Int) > 6) then
      some (0, false)
    else
      (M.impl_Schema_follow a0 a1.Start a1.Edges).bind fun v4 =>
      some (v4.1, v4.2)
  else
    some (0, false)

def M.impl_Schema_isSchema (a0 : XSchema) : Option Bool :=
  (M.impl_inRange a0.Nodes 0 8).bind fun v1 =>
  if v1 then
    if decide ((a0.From.length : Int) > 8) then
      some false
    else
      if (a0.To.length : Int) != (a0.From.length : Int) then
        some false
      else
        (M.impl_within a0.From a0.Nodes).bind fun v5 =>
        if v5 then
          (M.impl_within a0.To a0.Nodes).bind fun v7 =>
          if v7 then
            if decide ((a0.Left.length : Int) > 8) then
              some false
            else
              if (a0.Right.length : Int) != (a0.Left.length : Int) then
                some false
              else
                iter (fun (s11 : Int) next12 =>
                  if decide (s11 < (a0.Left.length : Int)) then
                    (idx a0.Left s11).bind fun y16 =>
                    (idx a0.Right s11).bind fun y17 =>
                    (M.impl_Schema_end a0 y16).bind fun v18 =>
                    (M.impl_Schema_end a0 y17).bind fun v19 =>
                    if v18.2 then
                      if v19.2 then
                        if y16.Start != y17.Start then
                          some false
                        else
                          if v18.1 != v19.1 then
                            some false
                          else
                            next12 (IntKind.i64.wrap (s11 + 1))
                      else
                        some false
                    else
                      some false
                  else
                    some true) fuel 0
          else
            some false
        else
          some false
  else
    some false

def M.laws_eqPath (a0 : XPath) (a1 : XPath) : Option Bool :=
  if a0.Start != a1.Start then
    some false
  else
    (M.laws_eqInt64S a0.Edges a1.Edges).bind fun v2 =>
    if v2 then
      some true
    else
      some false

def M.laws_eqPathS (a0 : List XPath) (a1 : List XPath) : Option Bool :=
  if (a0.length : Int) != (a1.length : Int) then
    some false
  else
    iter (fun (s2 : Int) next3 =>
      if decide (s2 < (a0.length : Int)) then
        (idx a0 s2).bind fun y7 =>
        (idx a1 s2).bind fun y8 =>
        (M.laws_eqPath y7 y8).bind fun v9 =>
        if v9 then
          next3 (IntKind.i64.wrap (s2 + 1))
        else
          some false
      else
        some true) fuel 0

def M.laws_eqSchema (a0 : XSchema) (a1 : XSchema) : Option Bool :=
  if a0.Nodes != a1.Nodes then
    some false
  else
    (M.laws_eqInt64S a0.From a1.From).bind fun v2 =>
    if v2 then
      (M.laws_eqInt64S a0.To a1.To).bind fun v4 =>
      if v4 then
        (M.laws_eqPathS a0.Left a1.Left).bind fun v6 =>
        if v6 then
          (M.laws_eqPathS a0.Right a1.Right).bind fun v8 =>
          if v8 then
            some true
          else
            some false
        else
          some false
      else
        some false
    else
      some false

def M.laws_markPathS (a0 : List XPath) (a1 : Int) : Option (Int × (List XPath)) :=
  iter (fun (s1 : (List XPath) × Int × Int) next2 =>
    if decide (s1.2.2 < (s1.1.length : Int)) then
      (idx s1.1 s1.2.2).bind fun y6 =>
      (idx (s1.1.set s1.2.2.toNat (⟨s1.2.1, y6.Edges⟩ : XPath)) s1.2.2).bind fun y7 =>
      (M.laws_markInt64S y7.Edges (IntKind.i64.wrap (s1.2.1 + 1))).bind fun v8 =>
      next2 ((s1.1.set s1.2.2.toNat (⟨s1.2.1, y6.Edges⟩ : XPath)).set s1.2.2.toNat (⟨y7.Start, v8.2⟩ : XPath), v8.1, IntKind.i64.wrap (s1.2.2 + 1))
    else
      some (s1.2.1, s1.1)) fuel (a0, a1, 0)

theorem M.len_markPathS {a0 : List XPath} {a1 : Int} {r : Int × (List XPath)} (h : M.laws_markPathS a0 a1 = some r) : a0.length = r.2.length := by
  unfold M.laws_markPathS at h
  refine iter_pres (fun s => s.1.length = a0.length) (fun r => a0.length = r.2.length) ?_ _ _ _ rfl h
  intro s next r hs hn h
  try dsimp only at h
  split at h
  · obtain ⟨_, _, h⟩ := bind_some' h
    obtain ⟨_, _, h⟩ := bind_some' h
    obtain ⟨_, _, h⟩ := bind_some' h
    exact hn _ (by simpa using hs) h
  · obtain rfl := Option.some.inj h; exact hs.symm

def M.laws_markSchema (a0 : XSchema) (a1 : Int) : Option (Int × XSchema) :=
  (M.laws_markInt64S a0.From a1).bind fun v1 =>
  (M.laws_markInt64S a0.To v1.1).bind fun v2 =>
  (M.laws_markPathS a0.Left v2.1).bind fun v3 =>
  (M.laws_markPathS a0.Right v3.1).bind fun v4 =>
  some (v4.1, (⟨a0.Nodes, v1.2, v2.2, v3.2, v4.2⟩ : XSchema))

end Go.Gx

/- Models of the functions. Printed by wip/gen. -/
namespace Go.Gx

structure XTransformation where
  Source : XFunctor
  Target : XFunctor
  Components : List Int
def R.XTransformation (x : XTransformation) : Prop := (R.XFunctor x.Source) ∧ (R.XFunctor x.Target) ∧ (AllL I64 x.Components)
end Go.Gx

/- Models of the functions. Printed by wip/gen. -/
namespace Go.Gx

end Go.Gx

/- Models of the functions. Printed by wip/gen. -/
namespace Go.Gx

end Go.Gx

/- Models of the functions. Printed by wip/gen. -/
namespace Go.Gx

end Go.Gx

/- Models of the functions. Printed by wip/gen. -/
namespace Go.Gx

structure XProfunctor where
  Source : XCategory
  Target : XCategory
  Sizes : List (List Int)
  Before : List (List (List Int))
  Behind : List (List (List Int))
def R.XProfunctor (x : XProfunctor) : Prop := (R.XCategory x.Source) ∧ (R.XCategory x.Target) ∧ (AllL (AllL I64) x.Sizes) ∧ (AllL (AllL (AllL I64)) x.Before) ∧ (AllL (AllL (AllL I64)) x.Behind)
end Go.Gx

/- Models of the functions. Printed by wip/gen. -/
namespace Go.Gx

def M.impl_fitting (a0 : List Int) : Option Bool :=
  (M.impl_within a0 17).bind fun v1 =>
  some v1

end Go.Gx

/- Models of the functions. Printed by wip/gen. -/
namespace Go.Gx

def M.spec_l01Has (a0 : List Int) (a1 : Int) : Option Bool :=
  iter (fun (s1 : Int) next2 =>
    if decide (s1 < (a0.length : Int)) then
      (idx a0 s1).bind fun y6 =>
      if y6 == a1 then
        some true
      else
        next2 (IntKind.i64.wrap (s1 + 1))
    else
      some false) fuel 0

end Go.Gx

/- Models of the functions. Printed by wip/gen. -/
namespace Go.Gx

end Go.Gx

/- Models of the functions. Printed by wip/gen. -/
namespace Go.Gx

structure XChange where
  Kind : Int
  First : Int
  Second : Int
  Third : Int
def eXChange : Enc XChange := (eA (eC eI XChange.Kind) (eA (eC eI XChange.First) (eA (eC eI XChange.Second) (eC eI XChange.Third))))
theorem eXChange_ok : EncOk eXChange := (eA_ok (eC_ok eI_ok _) (eA_ok (eC_ok eI_ok _) (eA_ok (eC_ok eI_ok _) (eC_ok eI_ok _))))
def R.XChange (x : XChange) : Prop := (I64 x.Kind) ∧ (I64 x.First) ∧ (I64 x.Second) ∧ (I64 x.Third)
structure Xl39Data where
  sizes_ : List Int
  maps_ : List (List Int)
def eXl39Data : Enc Xl39Data := (eA (eC (eS eI) Xl39Data.sizes_) (eC (eS (eS eI)) Xl39Data.maps_))
def R.Xl39Data (x : Xl39Data) : Prop := (AllL I64 x.sizes_) ∧ (AllL (AllL I64) x.maps_)
structure Xdata where
  sizes_ : List Int
  maps_ : List (List Int)
def eXdata : Enc Xdata := (eA (eC (eS eI) Xdata.sizes_) (eC (eS (eS eI)) Xdata.maps_))
def R.Xdata (x : Xdata) : Prop := (AllL I64 x.sizes_) ∧ (AllL (AllL I64) x.maps_)
theorem eXdata_nb : EncNb eXdata := (eA_nb (eC_nb (eS_nb eI_nb) _) (eC_nb (eS_nb (eS_nb eI_nb)) _))

def M.laws_szChangeS (a0 : List XChange) (a1 : Int) : Option Int :=
  if decide ((IntKind.i64.wrap (a1 - (a0.length : Int))) < 0) then
    some (-1)
  else
    some (IntKind.i64.wrap (a1 - (a0.length : Int)))

def M.laws_toChange (a0 : XChange) : Option XChange :=
  some a0

def M.laws_toChangeS (a0 : List XChange) : Option (List XChange) :=
  chk ((0 : Int) ≤ (a0.length : Int) ∧ (a0.length : Int) ≤ (lim : Int)) (
    iter (fun (s2 : (List XChange) × Int) next3 =>
      if decide (s2.2 < (a0.length : Int)) then
        (idx a0 s2.2).bind fun y7 =>
        (M.laws_toChange y7).bind fun v8 =>
        (idx s2.1 s2.2).bind fun _ =>
        next3 (s2.1.set s2.2.toNat v8, IntKind.i64.wrap (s2.2 + 1))
      else
        some s2.1) fuel ((List.replicate (a0.length : Int).toNat (⟨0, 0, 0, 0⟩ : XChange)), 0))

def M.laws_eqChange (a0 : XChange) (a1 : XChange) : Option Bool :=
  if a0.Kind != a1.Kind then
    some false
  else
    if a0.First != a1.First then
      some false
    else
      if a0.Second != a1.Second then
        some false
      else
        if a0.Third != a1.Third then
          some false
        else
          some true

def M.laws_eqChangeS (a0 : List XChange) (a1 : List XChange) : Option Bool :=
  if (a0.length : Int) != (a1.length : Int) then
    some false
  else
    iter (fun (s2 : Int) next3 =>
      if decide (s2 < (a0.length : Int)) then
        (idx a0 s2).bind fun y7 =>
        (idx a1 s2).bind fun y8 =>
        (M.laws_eqChange y7 y8).bind fun v9 =>
        if v9 then
          next3 (IntKind.i64.wrap (s2 + 1))
        else
          some false
      else
        some true) fuel 0

def M.laws_markChangeS (a0 : List XChange) (a1 : Int) : Option (Int × (List XChange)) :=
  iter (fun (s1 : (List XChange) × Int × Int) next2 =>
    if decide (s1.2.2 < (s1.1.length : Int)) then
      (idx s1.1 s1.2.2).bind fun y6 =>
      (idx (s1.1.set s1.2.2.toNat (⟨s1.2.1, y6.First, y6.Second, y6.Third⟩ : XChange)) s1.2.2).bind fun y7 =>
      (idx ((s1.1.set s1.2.2.toNat (⟨s1.2.1, y6.First, y6.Second, y6.Third⟩ : XChange)).set s1.2.2.toNat (⟨y7.Kind, IntKind.i64.wrap (s1.2.1 + 1), y7.Second, y7.Third⟩ : XChange)) s1.2.2).bind fun y8 =>
      (idx (((s1.1.set s1.2.2.toNat (⟨s1.2.1, y6.First, y6.Second, y6.Third⟩ : XChange)).set s1.2.2.toNat (⟨y7.Kind, IntKind.i64.wrap (s1.2.1 + 1), y7.Second, y7.Third⟩ : XChange)).set s1.2.2.toNat (⟨y8.Kind, y8.First, IntKind.i64.wrap ((IntKind.i64.wrap (s1.2.1 + 1)) + 1), y8.Third⟩ : XChange)) s1.2.2).bind fun y9 =>
      next2 ((((s1.1.set s1.2.2.toNat (⟨s1.2.1, y6.First, y6.Second, y6.Third⟩ : XChange)).set s1.2.2.toNat (⟨y7.Kind, IntKind.i64.wrap (s1.2.1 + 1), y7.Second, y7.Third⟩ : XChange)).set s1.2.2.toNat (⟨y8.Kind, y8.First, IntKind.i64.wrap ((IntKind.i64.wrap (s1.2.1 + 1)) + 1), y8.Third⟩ : XChange)).set s1.2.2.toNat (⟨y9.Kind, y9.First, y9.Second, IntKind.i64.wrap ((IntKind.i64.wrap ((IntKind.i64.wrap (s1.2.1 + 1)) + 1)) + 1)⟩ : XChange), IntKind.i64.wrap ((IntKind.i64.wrap ((IntKind.i64.wrap ((IntKind.i64.wrap (s1.2.1 + 1)) + 1)) + 1)) + 1), IntKind.i64.wrap (s1.2.2 + 1))
    else
      some (s1.2.1, s1.1)) fuel (a0, a1, 0)

def M.spec_l36Data (a0 : XSchema) (a1 : List Int) (a2 : List (List Int)) : Option Bool :=
  if (a1.length : Int) != a0.Nodes then
    some false
  else
    if (a2.length : Int) != (a0.From.length : Int) then
      some false
    else
      (M.spec_l01Map 17 a1).bind fun v3 =>
      if v3 then
        iter (fun (s5 : Int) next6 =>
          if decide (s5 < (a2.length : Int)) then
            (idx a2 s5).bind fun y10 =>
            (idx a0.From s5).bind fun y11 =>
            (idx a1 y11).bind fun y12 =>
            if (y10.length : Int) != y12 then
              some false
            else
              (idx a0.To s5).bind fun y14 =>
              (idx a1 y14).bind fun y15 =>
              (M.spec_l01Map y15 y10).bind fun v16 =>
              if v16 then
                next6 (IntKind.i64.wrap (s5 + 1))
              else
                some false
          else
            some true) fuel 0
      else
        some false

def M.spec_l36Walk (a0 : List (List Int)) (a1 : List Int) (a2 : Int) : Option Int :=
  iter (fun (s1 : Int × Int) next2 =>
    if decide (s1.2 < (a1.length : Int)) then
      (idx a1 s1.2).bind fun y6 =>
      (idx a0 y6).bind fun y7 =>
      (idx y7 s1.1).bind fun y8 =>
      next2 (y8, IntKind.i64.wrap (s1.2 + 1))
    else
      some s1.1) fuel (a2, 0)

def M.spec_l36Broken (a0 : XSchema) (a1 : List Int) (a2 : List (List Int)) : Option (Int × Int) :=
  iter (fun (s1 : Int) next2 =>
    if decide (s1 < (a0.Left.length : Int)) then
      iter (fun (s6 : Int) next7 =>
        (idx a0.Left s1).bind fun y10 =>
        (idx a1 y10.Start).bind fun y11 =>
        if decide (s6 < y11) then
          (M.spec_l36Walk a2 y10.Edges s6).bind fun v13 =>
          (idx a0.Right s1).bind fun y14 =>
          (M.spec_l36Walk a2 y14.Edges s6).bind fun v15 =>
          if v13 != v15 then
            some (s1, s6)
          else
            next7 (IntKind.i64.wrap (s6 + 1))
        else
          next2 (IntKind.i64.wrap (s1 + 1))) fuel 0
    else
      some ((-1), 0)) fuel 0

def M.spec_l39Whole (a0 : XSchema) (a1 : Xl39Data) : Option Bool :=
  iter (fun (s1 : Int) next2 =>
    if decide (s1 < (a1.maps_.length : Int)) then
      (idx a1.maps_ s1).bind fun y6 =>
      (M.spec_l01Has y6 (-1)).bind fun v7 =>
      if v7 then
        some false
      else
        next2 (IntKind.i64.wrap (s1 + 1))
    else
      (M.spec_l36Broken a0 a1.sizes_ a1.maps_).bind fun v9 =>
      some (decide (v9.1 < 0))) fuel 0

def M.spec_l39Apply (a0 : XSchema) (a1 : Xl39Data) (a2 : XChange) : Option (Xl39Data × Bool) :=
  (M.spec_l01Own a1.sizes_).bind fun v1 =>
  (M.spec_l01Own2 a1.maps_).bind fun v2 =>
  joinM (fun (_ : Unit) =>
    some ((⟨[], []⟩ : Xl39Data), false)) fun k4 =>
  if a2.Kind == 1 then
    if a2.Second == 0 then
      if a2.Third == 0 then
        (M.spec_l01In a2.First 0 (IntKind.i64.wrap (a0.Nodes - 1))).bind fun v9 =>
        if v9 then
          (idx a1.sizes_ a2.First).bind fun y11 =>
          if decide (y11 < 16) then
            (idx v1 a2.First).bind fun y13 =>
            iter (fun (s14 : (List (List Int)) × Int) next15 =>
              if decide (s14.2 < (a0.From.length : Int)) then
                (idx a0.From s14.2).bind fun y19 =>
                if y19 == a2.First then
                  (idx a1.maps_ s14.2).bind fun y21 =>
                  (M.spec_l01Own y21).bind fun v22 =>
                  chk (v22.length + (([(-1)] : List Int).length) ≤ lim) (
                    (idx s14.1 s14.2).bind fun _ =>
                    next15 (s14.1.set s14.2.toNat (v22 ++ ([(-1)] : List Int)), IntKind.i64.wrap (s14.2 + 1)))
                else
                  next15 (s14.1, IntKind.i64.wrap (s14.2 + 1))
              else
                some ((⟨v1.set a2.First.toNat (IntKind.i64.wrap (y13 + 1)), s14.1⟩ : Xl39Data), true)) fuel (v2, 0)
          else
            if a2.Kind == 2 then
              (M.spec_l01In a2.First 0 (IntKind.i64.wrap ((a0.From.length : Int) - 1))).bind fun v26 =>
              if v26 then
                (idx a0.From a2.First).bind fun y28 =>
                (idx a1.sizes_ y28).bind fun y29 =>
                (M.spec_l01In a2.Second 0 (IntKind.i64.wrap (y29 - 1))).bind fun v30 =>
                if v30 then
                  (idx a0.To a2.First).bind fun y32 =>
                  (idx a1.sizes_ y32).bind fun y33 =>
                  (M.spec_l01In a2.Third 0 (IntKind.i64.wrap (y33 - 1))).bind fun v34 =>
                  if v34 then
                    (idx v2 a2.First).bind fun y36 =>
                    (idx y36 a2.Second).bind fun _ =>
                    some ((⟨v1, v2.set a2.First.toNat (y36.set a2.Second.toNat a2.Third)⟩ : Xl39Data), true)
                  else
                    some ((⟨[], []⟩ : Xl39Data), false)
                else
                  some ((⟨[], []⟩ : Xl39Data), false)
              else
                k4 ()
            else
              k4 ()
        else
          if a2.Kind == 2 then
            (M.spec_l01In a2.First 0 (IntKind.i64.wrap ((a0.From.length : Int) - 1))).bind fun v39 =>
            if v39 then
              (idx a0.From a2.First).bind fun y41 =>
              (idx a1.sizes_ y41).bind fun y42 =>
              (M.spec_l01In a2.Second 0 (IntKind.i64.wrap (y42 - 1))).bind fun v43 =>
              if v43 then
                (idx a0.To a2.First).bind fun y45 =>
                (idx a1.sizes_ y45).bind fun y46 =>
                (M.spec_l01In a2.Third 0 (IntKind.i64.wrap (y46 - 1))).bind fun v47 =>
                if v47 then
                  (idx v2 a2.First).bind fun y49 =>
                  (idx y49 a2.Second).bind fun _ =>
                  some ((⟨v1, v2.set a2.First.toNat (y49.set a2.Second.toNat a2.Third)⟩ : Xl39Data), true)
                else
                  some ((⟨[], []⟩ : Xl39Data), false)
              else
                some ((⟨[], []⟩ : Xl39Data), false)
            else
              k4 ()
          else
            k4 ()
      else
        if a2.Kind == 2 then
          (M.spec_l01In a2.First 0 (IntKind.i64.wrap ((a0.From.length : Int) - 1))).bind fun v52 =>
          if v52 then
            (idx a0.From a2.First).bind fun y54 =>
            (idx a1.sizes_ y54).bind fun y55 =>
            (M.spec_l01In a2.Second 0 (IntKind.i64.wrap (y55 - 1))).bind fun v56 =>
            if v56 then
              (idx a0.To a2.First).bind fun y58 =>
              (idx a1.sizes_ y58).bind fun y59 =>
              (M.spec_l01In a2.Third 0 (IntKind.i64.wrap (y59 - 1))).bind fun v60 =>
              if v60 then
                (idx v2 a2.First).bind fun y62 =>
                (idx y62 a2.Second).bind fun _ =>
                some ((⟨v1, v2.set a2.First.toNat (y62.set a2.Second.toNat a2.Third)⟩ : Xl39Data), true)
              else
                some ((⟨[], []⟩ : Xl39Data), false)
            else
              some ((⟨[], []⟩ : Xl39Data), false)
          else
            k4 ()
        else
          k4 ()
    else
      if a2.Kind == 2 then
        (M.spec_l01In a2.First 0 (IntKind.i64.wrap ((a0.From.length : Int) - 1))).bind fun v65 =>
        if v65 then
          (idx a0.From a2.First).bind fun y67 =>
          (idx a1.sizes_ y67).bind fun y68 =>
          (M.spec_l01In a2.Second 0 (IntKind.i64.wrap (y68 - 1))).bind fun v69 =>
          if v69 then
            (idx a0.To a2.First).bind fun y71 =>
            (idx a1.sizes_ y71).bind fun y72 =>
            (M.spec_l01In a2.Third 0 (IntKind.i64.wrap (y72 - 1))).bind fun v73 =>
            if v73 then
              (idx v2 a2.First).bind fun y75 =>
              (idx y75 a2.Second).bind fun _ =>
              some ((⟨v1, v2.set a2.First.toNat (y75.set a2.Second.toNat a2.Third)⟩ : Xl39Data), true)
            else
              some ((⟨[], []⟩ : Xl39Data), false)
          else
            some ((⟨[], []⟩ : Xl39Data), false)
        else
          k4 ()
      else
        k4 ()
  else
    if a2.Kind == 2 then
      (M.spec_l01In a2.First 0 (IntKind.i64.wrap ((a0.From.length : Int) - 1))).bind fun v78 =>
      if v78 then
        (idx a0.From a2.First).bind fun y80 =>
        (idx a1.sizes_ y80).bind fun y81 =>
        (M.spec_l01In a2.Second 0 (IntKind.i64.wrap (y81 - 1))).bind fun v82 =>
        if v82 then
          (idx a0.To a2.First).bind fun y84 =>
          (idx a1.sizes_ y84).bind fun y85 =>
          (M.spec_l01In a2.Third 0 (IntKind.i64.wrap (y85 - 1))).bind fun v86 =>
          if v86 then
            (idx v2 a2.First).bind fun y88 =>
            (idx y88 a2.Second).bind fun _ =>
            some ((⟨v1, v2.set a2.First.toNat (y88.set a2.Second.toNat a2.Third)⟩ : Xl39Data), true)
          else
            some ((⟨[], []⟩ : Xl39Data), false)
        else
          some ((⟨[], []⟩ : Xl39Data), false)
      else
        k4 ()
    else
      k4 ()

def M.spec_l39All (a0 : XSchema) (a1 : Xl39Data) (a2 : List XChange) : Option (Xl39Data × Bool) :=
  iter (fun (s1 : (List Int) × (List (List Int)) × Int) next2 =>
    if decide (s1.2.2 < (a2.length : Int)) then
      (idx a2 s1.2.2).bind fun y6 =>
      (M.spec_l39Apply a0 (⟨s1.1, s1.2.1⟩ : Xl39Data) y6).bind fun v7 =>
      if v7.2 then
        next2 (v7.1.sizes_, v7.1.maps_, IntKind.i64.wrap (s1.2.2 + 1))
      else
        some ((⟨[], []⟩ : Xl39Data), false)
    else
      if decide ((a2.length : Int) ≤ 40) then
        (M.spec_l39Whole a0 (⟨s1.1, s1.2.1⟩ : Xl39Data)).bind fun v10 =>
        some ((⟨s1.1, s1.2.1⟩ : Xl39Data), v10)
      else
        some ((⟨s1.1, s1.2.1⟩ : Xl39Data), false)) fuel (a1.sizes_, a1.maps_, 0)

def M.spec_ApplyChanges (a0 : XSchema) (a1 : List Int) (a2 : List (List Int)) (a3 : List XChange) : Option ((List Int) × (List (List Int)) × Int) :=
  (M.spec_IsSchema a0).bind fun v1 =>
  if v1 then
    (M.spec_l36Data a0 a1 a2).bind fun v3 =>
    if v3 then
      if decide ((a3.length : Int) > 40) then
        some (([] : List Int), ([] : List (List Int)), 2)
      else
        (M.spec_l01Own a1).bind fun v6 =>
        (M.spec_l01Own2 a2).bind fun v7 =>
        (M.spec_l39Whole a0 (⟨v6, v7⟩ : Xl39Data)).bind fun v8 =>
        if v8 then
          (M.spec_l39All a0 (⟨((⟨v6, v7⟩ : Xl39Data).sizes_), ((⟨v6, v7⟩ : Xl39Data).maps_)⟩ : Xl39Data) a3).bind fun v10 =>
          if v10.2 then
            (M.spec_l01Own v10.1.sizes_).bind fun v12 =>
            (M.spec_l01Own2 v10.1.maps_).bind fun v13 =>
            some (v12, v13, 0)
          else
            some (([] : List Int), ([] : List (List Int)), 5)
        else
          some (([] : List Int), ([] : List (List Int)), 5)
    else
      some (([] : List Int), ([] : List (List Int)), 2)
  else
    some (([] : List Int), ([] : List (List Int)), 1)

def M.impl_Schema_hasRows (a0 : XSchema) (a1 : List Int) (a2 : List (List Int)) : Option Bool :=
  if (a1.length : Int) != a0.Nodes then
    some false
  else
    (M.impl_fitting a1).bind fun v2 =>
    if v2 then
      if (a2.length : Int) != (a0.From.length : Int) then
        some false
      else
        iter (fun (s5 : Int) next6 =>
          if decide (s5 < (a2.length : Int)) then
            (idx a2 s5).bind fun y10 =>
            (idx a0.From s5).bind fun y11 =>
            (idx a1 y11).bind fun y12 =>
            (idx a0.To s5).bind fun y13 =>
            (idx a1 y13).bind fun y14 =>
            (M.impl_isMapOf y10 y12 y14).bind fun v15 =>
            if v15 then
              next6 (IntKind.i64.wrap (s5 + 1))
            else
              some false
          else
            some true) fuel 0
    else
      some false

def M.impl_data_copy (a0 : Xdata) : Option Xdata :=
  (M.impl_clone a0.sizes_).bind fun v1 =>
  (M.impl_clones a0.maps_).bind fun v2 =>
  some (⟨v1, v2⟩ : Xdata)

def M.impl_Change_isChange (a0 : XChange) : Option Bool :=
  if a0.Kind == 1 then
    if a0.Second == 0 then
      some (a0.Third == 0)
    else
      some false
  else
    if a0.Kind == 2 then
      some true
    else
      some false

def M.impl_Schema_outOf (a0 : XSchema) (a1 : Int) : Option (List Int) :=
  iter (fun (s1 : (List Int) × Int) next2 =>
    if decide (s1.2 < (a0.From.length : Int)) then
      (idx a0.From s1.2).bind fun y6 =>
      if a1 == y6 then
        chk (s1.1.length + (([s1.2] : List Int).length) ≤ lim) (
          next2 (s1.1 ++ ([s1.2] : List Int), IntKind.i64.wrap (s1.2 + 1)))
      else
        next2 (s1.1, IntKind.i64.wrap (s1.2 + 1))
    else
      some s1.1) fuel (([] : List Int), 0)

def M.impl_data_apply (a0 : Xdata) (a1 : XSchema) (a2 : XChange) : Option (Bool × Xdata) :=
  (M.impl_Change_isChange a2).bind fun v1 =>
  if v1 then
    if a2.Kind == 1 then
      (M.impl_inRange a2.First 0 (IntKind.i64.wrap (a1.Nodes - 1))).bind fun v4 =>
      if v4 then
        (idx a0.sizes_ a2.First).bind fun y6 =>
        if y6 == 16 then
          some (false, a0)
        else
          (M.impl_Schema_outOf a1 a2.First).bind fun v8 =>
          iter (fun (s9 : (List (List Int)) × Int) next10 =>
            if decide (s9.2 < (v8.length : Int)) then
              (idx v8 s9.2).bind fun y14 =>
              (idx s9.1 y14).bind fun y15 =>
              chk (y15.length + (([(-1)] : List Int).length) ≤ lim) (
                next10 (s9.1.set y14.toNat (y15 ++ ([(-1)] : List Int)), IntKind.i64.wrap (s9.2 + 1)))
            else
              some (true, (⟨a0.sizes_.set a2.First.toNat (IntKind.i64.wrap (y6 + 1)), s9.1⟩ : Xdata))) fuel (a0.maps_, 0)
      else
        some (false, a0)
    else
      (M.impl_inRange a2.First 0 (IntKind.i64.wrap ((a1.From.length : Int) - 1))).bind fun v17 =>
      if v17 then
        (idx a1.From a2.First).bind fun y19 =>
        (idx a0.sizes_ y19).bind fun y20 =>
        (M.impl_inRange a2.Second 0 (IntKind.i64.wrap (y20 - 1))).bind fun v21 =>
        if v21 then
          (idx a1.To a2.First).bind fun y23 =>
          (idx a0.sizes_ y23).bind fun y24 =>
          (M.impl_inRange a2.Third 0 (IntKind.i64.wrap (y24 - 1))).bind fun v25 =>
          if v25 then
            (idx a0.maps_ a2.First).bind fun y27 =>
            (idx y27 a2.Second).bind fun _ =>
            some (true, (⟨a0.sizes_, a0.maps_.set a2.First.toNat (y27.set a2.Second.toNat a2.Third)⟩ : Xdata))
          else
            some (false, a0)
        else
          some (false, a0)
      else
        some (false, a0)
  else
    some (false, a0)

def M.impl_lead (a0 : List (List Int)) (a1 : List Int) (a2 : Int) : Option Int :=
  iter (fun (s1 : Int × Int) next2 =>
    if decide (s1.1 < (a1.length : Int)) then
      (idx a1 s1.1).bind fun y6 =>
      (idx a0 y6).bind fun y7 =>
      (idx y7 s1.2).bind fun y8 =>
      next2 (IntKind.i64.wrap (s1.1 + 1), y8)
    else
      some s1.2) fuel (0, a2)

def M.impl_Schema_broken (a0 : XSchema) (a1 : List Int) (a2 : List (List Int)) : Option (Int × Int) :=
  iter (fun (s1 : Int) next2 =>
    if decide (s1 < (a0.Left.length : Int)) then
      (idx a0.Left s1).bind fun y6 =>
      (idx a1 y6.Start).bind fun y7 =>
      iter (fun (s8 : Int) next9 =>
        if decide (s8 < y7) then
          (M.impl_lead a2 y6.Edges s8).bind fun v13 =>
          (idx a0.Right s1).bind fun y14 =>
          (M.impl_lead a2 y14.Edges s8).bind fun v15 =>
          if v13 != v15 then
            some (s1, s8)
          else
            next9 (IntKind.i64.wrap (s8 + 1))
        else
          next2 (IntKind.i64.wrap (s1 + 1))) fuel 0
    else
      some ((-1), 0)) fuel 0

def M.impl_data_isWhole (a0 : Xdata) (a1 : XSchema) : Option Bool :=
  (M.impl_Schema_hasRows a1 a0.sizes_ a0.maps_).bind fun v1 =>
  if v1 then
    (M.impl_Schema_broken a1 a0.sizes_ a0.maps_).bind fun v3 =>
    some (decide (v3.1 < 0))
  else
    some false

def M.impl_data_after (a0 : Xdata) (a1 : XSchema) (a2 : List XChange) : Option (Xdata × Bool) :=
  (M.impl_data_copy a0).bind fun v1 =>
  iter (fun (s2 : (List Int) × (List (List Int)) × Int) next3 =>
    if decide (s2.2.2 < (a2.length : Int)) then
      (idx a2 s2.2.2).bind fun y7 =>
      (M.impl_data_apply (⟨s2.1, s2.2.1⟩ : Xdata) a1 y7).bind fun v8 =>
      if v8.1 then
        next3 (v8.2.sizes_, v8.2.maps_, IntKind.i64.wrap (s2.2.2 + 1))
      else
        some ((⟨[], []⟩ : Xdata), false)
    else
      (M.impl_data_isWhole (⟨s2.1, s2.2.1⟩ : Xdata) a1).bind fun v10 =>
      some ((⟨s2.1, s2.2.1⟩ : Xdata), v10)) fuel (v1.sizes_, v1.maps_, 0)

def M.impl_ApplyChanges (a0 : XSchema) (a1 : List Int) (a2 : List (List Int)) (a3 : List XChange) : Option ((List Int) × (List (List Int)) × Int) :=
  (M.impl_Schema_isSchema a0).bind fun v1 =>
  if v1 then
    (M.impl_Schema_hasRows a0 a1 a2).bind fun v3 =>
    if v3 then
      if decide ((a3.length : Int) > 40) then
        some (([] : List Int), ([] : List (List Int)), 2)
      else
        (M.impl_data_after (⟨a1, a2⟩ : Xdata) a0 a3).bind fun v6 =>
        if v6.2 then
          (M.impl_data_isWhole (⟨a1, a2⟩ : Xdata) a0).bind fun v8 =>
          if v8 then
            some (v6.1.sizes_, v6.1.maps_, 0)
          else
            some (([] : List Int), ([] : List (List Int)), 5)
        else
          some (([] : List Int), ([] : List (List Int)), 5)
    else
      some (([] : List Int), ([] : List (List Int)), 2)
  else
    some (([] : List Int), ([] : List (List Int)), 1)

def M.laws_FnExactApplyChanges (a0 : XSchema) (a1 : List Int) (a2 : List (List Int)) (a3 : List XChange) : Option Bool :=
  if decide ((a1.length : Int) > 1048576) then
    some true
  else
    (M.laws_szSchema a0 1048576).bind fun v2 =>
    if decide (v2 < 0) then
      some true
    else
      (M.laws_szInt64SS a2 v2).bind fun v4 =>
      if decide (v4 < 0) then
        some true
      else
        (M.laws_szChangeS a3 v4).bind fun v6 =>
        if decide (v6 < 0) then
          some true
        else
          (M.laws_toSchema a0).bind fun v8 =>
          (M.laws_toInt64S a1).bind fun v9 =>
          (M.laws_toInt64SS a2).bind fun v10 =>
          (M.laws_toChangeS a3).bind fun v11 =>
          (M.spec_ApplyChanges v8 v9 v10 v11).bind fun v12 =>
          (M.impl_ApplyChanges v8 v9 v10 v11).bind fun v13 =>
          (M.laws_eqInt64S v13.1 v12.1).bind fun v14 =>
          if v14 then
            (M.laws_eqInt64SS v13.2.1 v12.2.1).bind fun v16 =>
            if v16 then
              if v13.2.2 != v12.2.2 then
                some false
              else
                (M.laws_eqSchema v8 v8).bind fun v19 =>
                if v19 then
                  (M.laws_eqInt64S v9 v9).bind fun v21 =>
                  if v21 then
                    (M.laws_eqInt64SS v10 v10).bind fun v23 =>
                    if v23 then
                      (M.laws_eqChangeS v11 v11).bind fun v25 =>
                      if v25 then
                        (M.laws_markSchema v8 1).bind fun v27 =>
                        (M.laws_markInt64S v9 v27.1).bind fun v28 =>
                        (M.laws_markInt64SS v10 v28.1).bind fun v29 =>
                        (M.laws_markChangeS v11 v29.1).bind fun v30 =>
                        if decide (v30.1 < 0) then
                          some false
                        else
                          (M.laws_markInt64S v13.1 1).bind fun v32 =>
                          (M.laws_markInt64SS v13.2.1 v32.1).bind fun v33 =>
                          (M.laws_heldInt64S v32.2 1).bind fun v34 =>
                          if decide (v34 < 0) then
                            some false
                          else
                            (M.laws_heldInt64SS v33.2 v34).bind fun v36 =>
                            if decide (v36 < 0) then
                              some false
                            else
                              if v36 != v33.1 then
                                some false
                              else
                                some true
                      else
                        some false
                    else
                      some false
                  else
                    some false
                else
                  some false
            else
              some false
          else
            some false

end Go.Gx

/- Models of the functions. Printed by wip/gen. -/
namespace Go.Gx

end Go.Gx

/- Models of the functions. Printed by wip/gen. -/
namespace Go.Gx

end Go.Gx

/- Models of the functions. Printed by wip/gen. -/
namespace Go.Gx

end Go.Gx

/- Models of the functions. Printed by wip/gen. -/
namespace Go.Gx

end Go.Gx
