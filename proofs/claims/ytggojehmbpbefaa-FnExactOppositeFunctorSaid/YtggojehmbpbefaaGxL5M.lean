/- Models of the functions. Printed by wip/gen. -/
import Derived.Test.YtggojehmbpbefaaGxL1M
import Derived.Test.YtggojehmbpbefaaGxIp
namespace Go.Gx

def M.laws_markInt64S (a0 : List Int) (a1 : Int) : Option (Int × (List Int)) :=
  iter (fun (s1 : (List Int) × Int × Int) next2 =>
    if decide (s1.2.2 < (s1.1.length : Int)) then
      (idx s1.1 s1.2.2).bind fun y6 =>
      next2 (s1.1.set s1.2.2.toNat s1.2.1, IntKind.i64.wrap (s1.2.1 + 1), IntKind.i64.wrap (s1.2.2 + 1))
    else
      some (s1.2.1, s1.1)) fuel (a0, a1, 0)

theorem M.len_markInt64S {a0 : List Int} {a1 : Int} {r : Int × (List Int)} (h : M.laws_markInt64S a0 a1 = some r) : a0.length = r.2.length := by
  unfold M.laws_markInt64S at h
  refine iter_pres (fun s => s.1.length = a0.length) (fun r => a0.length = r.2.length) ?_ _ _ _ rfl h
  intro s next r hs hn h
  try dsimp only at h
  split at h
  · obtain ⟨_, _, h⟩ := bind_some' h
    exact hn _ (by simpa using hs) h
  · obtain rfl := Option.some.inj h; exact hs.symm

def M.laws_markInt64SS (a0 : List (List Int)) (a1 : Int) : Option (Int × (List (List Int))) :=
  iter (fun (s1 : (List (List Int)) × Int × Int) next2 =>
    if decide (s1.2.2 < (s1.1.length : Int)) then
      (idx s1.1 s1.2.2).bind fun y6 =>
      (M.laws_markInt64S y6 s1.2.1).bind fun v7 =>
      next2 (s1.1.set s1.2.2.toNat v7.2, v7.1, IntKind.i64.wrap (s1.2.2 + 1))
    else
      some (s1.2.1, s1.1)) fuel (a0, a1, 0)

theorem M.len_markInt64SS {a0 : List (List Int)} {a1 : Int} {r : Int × (List (List Int))} (h : M.laws_markInt64SS a0 a1 = some r) : a0.length = r.2.length := by
  unfold M.laws_markInt64SS at h
  refine iter_pres (fun s => s.1.length = a0.length) (fun r => a0.length = r.2.length) ?_ _ _ _ rfl h
  intro s next r hs hn h
  try dsimp only at h
  split at h
  · obtain ⟨_, _, h⟩ := bind_some' h
    obtain ⟨_, _, h⟩ := bind_some' h
    exact hn _ (by simpa using hs) h
  · obtain rfl := Option.some.inj h; exact hs.symm

def M.laws_markCategory (a0 : XCategory) (a1 : Int) : Option (Int × XCategory) :=
  (M.laws_markInt64S a0.From a1).bind fun v1 =>
  (M.laws_markInt64S a0.To v1.1).bind fun v2 =>
  (M.laws_markInt64S a0.Identity v2.1).bind fun v3 =>
  (M.laws_markInt64SS a0.Composites v3.1).bind fun v4 =>
  some (v4.1, (⟨a0.Objects, v1.2, v2.2, v3.2, v4.2⟩ : XCategory))

theorem M.len_markCategory {a0 : XCategory} {a1 : Int} {r : Int × XCategory} (h : M.laws_markCategory a0 a1 = some r) : a0.From.length = r.2.From.length ∧ a0.To.length = r.2.To.length ∧ a0.Identity.length = r.2.Identity.length ∧ a0.Composites.length = r.2.Composites.length := by
  unfold M.laws_markCategory at h
  obtain ⟨v0, h0, h⟩ := bind_some' h
  have l0 := M.len_markInt64S h0
  obtain ⟨v1, h1, h⟩ := bind_some' h
  have l1 := M.len_markInt64S h1
  obtain ⟨v2, h2, h⟩ := bind_some' h
  have l2 := M.len_markInt64S h2
  obtain ⟨v3, h3, h⟩ := bind_some' h
  have l3 := M.len_markInt64SS h3
  obtain rfl := Option.some.inj h
  refine ⟨?_, ?_, ?_, ?_⟩ <;> dsimp only <;> omega

def M.laws_markFunctor (a0 : XFunctor) (a1 : Int) : Option (Int × XFunctor) :=
  (M.laws_markCategory a0.Source a1).bind fun v1 =>
  (M.laws_markCategory a0.Target v1.1).bind fun v2 =>
  (M.laws_markInt64S a0.Objects v2.1).bind fun v3 =>
  (M.laws_markInt64S a0.Arrows v3.1).bind fun v4 =>
  some (v4.1, (⟨(⟨a0.Source.Objects, v1.2.From, v1.2.To, v1.2.Identity, v1.2.Composites⟩ : XCategory), (⟨a0.Target.Objects, v2.2.From, v2.2.To, v2.2.Identity, v2.2.Composites⟩ : XCategory), v3.2, v4.2⟩ : XFunctor))

theorem M.len_markFunctor {a0 : XFunctor} {a1 : Int} {r : Int × XFunctor} (h : M.laws_markFunctor a0 a1 = some r) : a0.Source.From.length = r.2.Source.From.length ∧ a0.Source.To.length = r.2.Source.To.length ∧ a0.Source.Identity.length = r.2.Source.Identity.length ∧ a0.Source.Composites.length = r.2.Source.Composites.length ∧ a0.Target.From.length = r.2.Target.From.length ∧ a0.Target.To.length = r.2.Target.To.length ∧ a0.Target.Identity.length = r.2.Target.Identity.length ∧ a0.Target.Composites.length = r.2.Target.Composites.length ∧ a0.Objects.length = r.2.Objects.length ∧ a0.Arrows.length = r.2.Arrows.length := by
  unfold M.laws_markFunctor at h
  obtain ⟨v0, h0, h⟩ := bind_some' h
  have l0 := M.len_markCategory h0
  obtain ⟨v1, h1, h⟩ := bind_some' h
  have l1 := M.len_markCategory h1
  obtain ⟨v2, h2, h⟩ := bind_some' h
  have l2 := M.len_markInt64S h2
  obtain ⟨v3, h3, h⟩ := bind_some' h
  have l3 := M.len_markInt64S h3
  obtain rfl := Option.some.inj h
  refine ⟨?_, ?_, ?_, ?_, ?_, ?_, ?_, ?_, ?_, ?_⟩ <;> dsimp only <;> omega

def M.spec_OppositeFunctor (a0 : XFunctor) : Option (XFunctor × Int) :=
  (M.spec_l06Is a0).bind fun v1 =>
  if v1 then
    (M.spec_l06Op a0).bind fun v3 =>
    some (v3, 0)
  else
    some ((⟨(⟨0, [], [], [], []⟩ : XCategory), (⟨0, [], [], [], []⟩ : XCategory), [], []⟩ : XFunctor), 1)

def M.impl_OppositeFunctor (a0 : XFunctor) : Option (XFunctor × Int) :=
  (M.impl_Functor_isFunctor a0).bind fun v1 =>
  if v1 then
    (M.impl_Functor_opposite a0).bind fun v3 =>
    some (v3, 0)
  else
    some ((⟨(⟨0, [], [], [], []⟩ : XCategory), (⟨0, [], [], [], []⟩ : XCategory), [], []⟩ : XFunctor), 1)

def M.laws_heldInt64S (a0 : List Int) (a1 : Int) : Option Int :=
  iter (fun (s1 : Int × Int) next2 =>
    if decide (s1.2 < (a0.length : Int)) then
      (idx a0 s1.2).bind fun y6 =>
      if y6 != s1.1 then
        some (-1)
      else
        next2 (IntKind.i64.wrap (s1.1 + 1), IntKind.i64.wrap (s1.2 + 1))
    else
      some s1.1) fuel (a1, 0)

def M.laws_heldInt64SS (a0 : List (List Int)) (a1 : Int) : Option Int :=
  iter (fun (s1 : Int × Int) next2 =>
    if decide (s1.2 < (a0.length : Int)) then
      (idx a0 s1.2).bind fun y6 =>
      (M.laws_heldInt64S y6 s1.1).bind fun v7 =>
      if decide (v7 < 0) then
        some (-1)
      else
        next2 (v7, IntKind.i64.wrap (s1.2 + 1))
    else
      some s1.1) fuel (a1, 0)

def M.laws_heldCategory (a0 : XCategory) (a1 : Int) : Option Int :=
  (M.laws_heldInt64S a0.From a1).bind fun v1 =>
  if decide (v1 < 0) then
    some (-1)
  else
    (M.laws_heldInt64S a0.To v1).bind fun v3 =>
    if decide (v3 < 0) then
      some (-1)
    else
      (M.laws_heldInt64S a0.Identity v3).bind fun v5 =>
      if decide (v5 < 0) then
        some (-1)
      else
        (M.laws_heldInt64SS a0.Composites v5).bind fun v7 =>
        if decide (v7 < 0) then
          some (-1)
        else
          some v7

def M.laws_heldFunctor (a0 : XFunctor) (a1 : Int) : Option Int :=
  (M.laws_heldCategory a0.Source a1).bind fun v1 =>
  if decide (v1 < 0) then
    some (-1)
  else
    (M.laws_heldCategory a0.Target v1).bind fun v3 =>
    if decide (v3 < 0) then
      some (-1)
    else
      (M.laws_heldInt64S a0.Objects v3).bind fun v5 =>
      if decide (v5 < 0) then
        some (-1)
      else
        (M.laws_heldInt64S a0.Arrows v5).bind fun v7 =>
        if decide (v7 < 0) then
          some (-1)
        else
          some v7

def M.laws_FnExactOppositeFunctor (a0 : XFunctor) : Option Bool :=
  (M.laws_szFunctor a0 1048576).bind fun v1 =>
  if decide (v1 < 0) then
    some true
  else
    (M.laws_toFunctor a0).bind fun v3 =>
    (M.spec_OppositeFunctor v3).bind fun v4 =>
    (M.impl_OppositeFunctor v3).bind fun v5 =>
    (M.laws_eqFunctor v5.1 v4.1).bind fun v6 =>
    if v6 then
      if v5.2 != v4.2 then
        some false
      else
        (M.laws_eqFunctor v3 v3).bind fun v9 =>
        if v9 then
          (M.laws_markFunctor v3 1).bind fun v11 =>
          if decide (v11.1 < 0) then
            some false
          else
            (M.laws_markFunctor v5.1 1).bind fun v13 =>
            (M.laws_heldFunctor (⟨(⟨v5.1.Source.Objects, v13.2.Source.From, v13.2.Source.To, v13.2.Source.Identity, v13.2.Source.Composites⟩ : XCategory), (⟨v5.1.Target.Objects, v13.2.Target.From, v13.2.Target.To, v13.2.Target.Identity, v13.2.Target.Composites⟩ : XCategory), v13.2.Objects, v13.2.Arrows⟩ : XFunctor) 1).bind fun v14 =>
            if decide (v14 < 0) then
              some false
            else
              if v14 != v13.1 then
                some false
              else
                some true
        else
          some false
    else
      some false

end Go.Gx
