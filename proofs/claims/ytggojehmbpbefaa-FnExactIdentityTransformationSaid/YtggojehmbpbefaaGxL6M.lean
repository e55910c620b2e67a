/- Models of the functions. Printed by wip/gen. -/
import Derived.Test.YtggojehmbpbefaaGxBM
import Derived.Test.YtggojehmbpbefaaGxIp
import Derived.Test.YtggojehmbpbefaaGxAb
namespace Go.Gx

structure XTransformation where
  Source : XFunctor
  Target : XFunctor
  Components : List Int
def eXTransformation : Enc XTransformation := (eA (eC eXFunctor XTransformation.Source) (eA (eC eXFunctor XTransformation.Target) (eC (eS eI) XTransformation.Components)))
theorem eXTransformation_ok : EncOk eXTransformation := (eA_ok (eC_ok eXFunctor_ok _) (eA_ok (eC_ok eXFunctor_ok _) (eC_ok (eS_ok eI_ok) _)))
def R.XTransformation (x : XTransformation) : Prop := (R.XFunctor x.Source) ∧ (R.XFunctor x.Target) ∧ (AllL I64 x.Components)
theorem eXTransformation_nb : EncNb eXTransformation := (eA_nb (eC_nb eXFunctor_nb _) (eA_nb (eC_nb eXFunctor_nb _) (eC_nb (eS_nb eI_nb) _)))

def M.spec_l07Own (a0 : XFunctor) : Option XFunctor :=
  (M.spec_l06Make a0.Source a0.Target a0.Objects a0.Arrows).bind fun v1 =>
  some v1

def M.spec_l07Make (a0 : XFunctor) (a1 : XFunctor) (a2 : List Int) : Option XTransformation :=
  (M.spec_l07Own a0).bind fun v1 =>
  (M.spec_l07Own a1).bind fun v2 =>
  (M.spec_l01Own a2).bind fun v3 =>
  some (⟨v1, v2, v3⟩ : XTransformation)

def M.spec_l01Then (a0 : List Int) (a1 : List Int) : Option (List Int) :=
  iter (fun (s1 : (List Int) × Int) next2 =>
    if decide (s1.2 < (a0.length : Int)) then
      (idx a0 s1.2).bind fun y6 =>
      (idx a1 y6).bind fun y7 =>
      chk (s1.1.length + (([y7] : List Int).length) ≤ lim) (
        next2 (s1.1 ++ ([y7] : List Int), IntKind.i64.wrap (s1.2 + 1)))
    else
      some s1.1) fuel (([] : List Int), 0)

def M.spec_l07Self (a0 : XFunctor) : Option (List Int) :=
  (M.spec_l01Then a0.Objects a0.Target.Identity).bind fun v1 =>
  some v1

def M.spec_IdentityTransformation (a0 : XFunctor) : Option (XTransformation × Int) :=
  (M.spec_l06Is a0).bind fun v1 =>
  if v1 then
    (M.spec_l07Self a0).bind fun v3 =>
    (M.spec_l07Make a0 a0 v3).bind fun v4 =>
    some (v4, 0)
  else
    some ((⟨(⟨(⟨0, [], [], [], []⟩ : XCategory), (⟨0, [], [], [], []⟩ : XCategory), [], []⟩ : XFunctor), (⟨(⟨0, [], [], [], []⟩ : XCategory), (⟨0, [], [], [], []⟩ : XCategory), [], []⟩ : XFunctor), []⟩ : XTransformation), 1)

def M.impl_Functor_copy (a0 : XFunctor) : Option XFunctor :=
  (M.impl_functor a0.Source a0.Target a0.Objects a0.Arrows).bind fun v1 =>
  some v1

def M.impl_transformation (a0 : XFunctor) (a1 : XFunctor) (a2 : List Int) : Option XTransformation :=
  (M.impl_Functor_copy a0).bind fun v1 =>
  (M.impl_Functor_copy a1).bind fun v2 =>
  (M.impl_clone a2).bind fun v3 =>
  some (⟨v1, v2, v3⟩ : XTransformation)

def M.impl_then (a0 : List Int) (a1 : List Int) : Option (List Int) :=
  chk ((0 : Int) ≤ (a0.length : Int) ∧ (a0.length : Int) ≤ (lim : Int)) (
    iter (fun (s2 : (List Int) × Int) next3 =>
      if decide (s2.2 < (a0.length : Int)) then
        (idx a0 s2.2).bind fun y7 =>
        (idx a1 y7).bind fun y8 =>
        (idx s2.1 s2.2).bind fun _ =>
        next3 (s2.1.set s2.2.toNat y8, IntKind.i64.wrap (s2.2 + 1))
      else
        some s2.1) fuel ((List.replicate (a0.length : Int).toNat (0 : Int)), 0))

def M.impl_IdentityTransformation (a0 : XFunctor) : Option (XTransformation × Int) :=
  (M.impl_Functor_isFunctor a0).bind fun v1 =>
  if v1 then
    (M.impl_then a0.Objects a0.Target.Identity).bind fun v3 =>
    (M.impl_transformation a0 a0 v3).bind fun v4 =>
    some (v4, 0)
  else
    some ((⟨(⟨(⟨0, [], [], [], []⟩ : XCategory), (⟨0, [], [], [], []⟩ : XCategory), [], []⟩ : XFunctor), (⟨(⟨0, [], [], [], []⟩ : XCategory), (⟨0, [], [], [], []⟩ : XCategory), [], []⟩ : XFunctor), []⟩ : XTransformation), 1)

def M.laws_eqTransformation (a0 : XTransformation) (a1 : XTransformation) : Option Bool :=
  (M.laws_eqFunctor a0.Source a1.Source).bind fun v1 =>
  if v1 then
    (M.laws_eqFunctor a0.Target a1.Target).bind fun v3 =>
    if v3 then
      (M.laws_eqInt64S a0.Components a1.Components).bind fun v5 =>
      if v5 then
        some true
      else
        some false
    else
      some false
  else
    some false

def M.laws_markTransformation (a0 : XTransformation) (a1 : Int) : Option (Int × XTransformation) :=
  (M.laws_markFunctor a0.Source a1).bind fun v1 =>
  (M.laws_markFunctor a0.Target v1.1).bind fun v2 =>
  (M.laws_markInt64S a0.Components v2.1).bind fun v3 =>
  some (v3.1, (⟨(⟨(⟨a0.Source.Source.Objects, v1.2.Source.From, v1.2.Source.To, v1.2.Source.Identity, v1.2.Source.Composites⟩ : XCategory), (⟨a0.Source.Target.Objects, v1.2.Target.From, v1.2.Target.To, v1.2.Target.Identity, v1.2.Target.Composites⟩ : XCategory), v1.2.Objects, v1.2.Arrows⟩ : XFunctor), (⟨(⟨a0.Target.Source.Objects, v2.2.Source.From, v2.2.Source.To, v2.2.Source.Identity, v2.2.Source.Composites⟩ : XCategory), (⟨a0.Target.Target.Objects, v2.2.Target.From, v2.2.Target.To, v2.2.Target.Identity, v2.2.Target.Composites⟩ : XCategory), v2.2.Objects, v2.2.Arrows⟩ : XFunctor), v3.2⟩ : XTransformation))

theorem M.len_markTransformation {a0 : XTransformation} {a1 : Int} {r : Int × XTransformation} (h : M.laws_markTransformation a0 a1 = some r) : a0.Source.Source.From.length = r.2.Source.Source.From.length ∧ a0.Source.Source.To.length = r.2.Source.Source.To.length ∧ a0.Source.Source.Identity.length = r.2.Source.Source.Identity.length ∧ a0.Source.Source.Composites.length = r.2.Source.Source.Composites.length ∧ a0.Source.Target.From.length = r.2.Source.Target.From.length ∧ a0.Source.Target.To.length = r.2.Source.Target.To.length ∧ a0.Source.Target.Identity.length = r.2.Source.Target.Identity.length ∧ a0.Source.Target.Composites.length = r.2.Source.Target.Composites.length ∧ a0.Source.Objects.length = r.2.Source.Objects.length ∧ a0.Source.Arrows.length = r.2.Source.Arrows.length ∧ a0.Target.Source.From.length = r.2.Target.Source.From.length ∧ a0.Target.Source.To.length = r.2.Target.Source.To.length ∧ a0.Target.Source.Identity.length = r.2.Target.Source.Identity.length ∧ a0.Target.Source.Composites.length = r.2.Target.Source.Composites.length ∧ a0.Target.Target.From.length = r.2.Target.Target.From.length ∧ a0.Target.Target.To.length = r.2.Target.Target.To.length ∧ a0.Target.Target.Identity.length = r.2.Target.Target.Identity.length ∧ a0.Target.Target.Composites.length = r.2.Target.Target.Composites.length ∧ a0.Target.Objects.length = r.2.Target.Objects.length ∧ a0.Target.Arrows.length = r.2.Target.Arrows.length ∧ a0.Components.length = r.2.Components.length := by
  unfold M.laws_markTransformation at h
  obtain ⟨v0, h0, h⟩ := bind_some' h
  have l0 := M.len_markFunctor h0
  obtain ⟨v1, h1, h⟩ := bind_some' h
  have l1 := M.len_markFunctor h1
  obtain ⟨v2, h2, h⟩ := bind_some' h
  have l2 := M.len_markInt64S h2
  obtain rfl := Option.some.inj h
  refine ⟨?_, ?_, ?_, ?_, ?_, ?_, ?_, ?_, ?_, ?_, ?_, ?_, ?_, ?_, ?_, ?_, ?_, ?_, ?_, ?_, ?_⟩ <;> dsimp only <;> omega

def M.laws_heldTransformation (a0 : XTransformation) (a1 : Int) : Option Int :=
  (M.laws_heldFunctor a0.Source a1).bind fun v1 =>
  if decide (v1 < 0) then
    some (-1)
  else
    (M.laws_heldFunctor a0.Target v1).bind fun v3 =>
    if decide (v3 < 0) then
      some (-1)
    else
      (M.laws_heldInt64S a0.Components v3).bind fun v5 =>
      if decide (v5 < 0) then
        some (-1)
      else
        some v5

def M.laws_FnExactIdentityTransformation (a0 : XFunctor) : Option Bool :=
  (M.laws_szFunctor a0 1048576).bind fun v1 =>
  if decide (v1 < 0) then
    some true
  else
    (M.laws_toFunctor a0).bind fun v3 =>
    (M.spec_IdentityTransformation v3).bind fun v4 =>
    (M.impl_IdentityTransformation v3).bind fun v5 =>
    (M.laws_eqTransformation v5.1 v4.1).bind fun v6 =>
    if v6 then
      if v5.2 != v4.2 then
        some false
      else
        (M.laws_eqFunctor v3 v3).bind fun v9 =>
        if v9 then
          (M.laws_markFunctor v3 1).bind fun v11 =>
          if decide (v11.1 < 0) then
            some false
          else
            (M.laws_markTransformation v5.1 1).bind fun v13 =>
            (M.laws_heldTransformation (⟨(⟨(⟨v5.1.Source.Source.Objects, v13.2.Source.Source.From, v13.2.Source.Source.To, v13.2.Source.Source.Identity, v13.2.Source.Source.Composites⟩ : XCategory), (⟨v5.1.Source.Target.Objects, v13.2.Source.Target.From, v13.2.Source.Target.To, v13.2.Source.Target.Identity, v13.2.Source.Target.Composites⟩ : XCategory), v13.2.Source.Objects, v13.2.Source.Arrows⟩ : XFunctor), (⟨(⟨v5.1.Target.Source.Objects, v13.2.Target.Source.From, v13.2.Target.Source.To, v13.2.Target.Source.Identity, v13.2.Target.Source.Composites⟩ : XCategory), (⟨v5.1.Target.Target.Objects, v13.2.Target.Target.From, v13.2.Target.Target.To, v13.2.Target.Target.Identity, v13.2.Target.Target.Composites⟩ : XCategory), v13.2.Target.Objects, v13.2.Target.Arrows⟩ : XFunctor), v13.2.Components⟩ : XTransformation) 1).bind fun v14 =>
            if decide (v14 < 0) then
              some false
            else
              if v14 != v13.1 then
                some false
              else
                some true
        else
          some false
    else
      some false

end Go.Gx
