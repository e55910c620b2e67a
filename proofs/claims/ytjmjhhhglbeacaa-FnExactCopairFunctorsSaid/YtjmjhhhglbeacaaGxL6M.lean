/- Models of the functions. Printed by wip/gen. -/
import Derived.Test.YtjmjhhhglbeacaaGxBM
import Derived.Test.YtjmjhhhglbeacaaGxE1
namespace Go.Gx

structure XTransformation where
  Source : XFunctor
  Target : XFunctor
  Components : List Int
def eXTransformation : Enc XTransformation := (eA (eC eXFunctor XTransformation.Source) (eA (eC eXFunctor XTransformation.Target) (eC (eS eI) XTransformation.Components)))
theorem eXTransformation_ok : EncOk eXTransformation := (eA_ok (eC_ok eXFunctor_ok _) (eA_ok (eC_ok eXFunctor_ok _) (eC_ok (eS_ok eI_ok) _)))
def R.XTransformation (x : XTransformation) : Prop := (R.XFunctor x.Source) ∧ (R.XFunctor x.Target) ∧ (AllL I64 x.Components)
theorem eXTransformation_nb : EncNb eXTransformation := (eA_nb (eC_nb eXFunctor_nb _) (eA_nb (eC_nb eXFunctor_nb _) (eC_nb (eS_nb eI_nb) _)))

def M.spec_l07Own (a0 : XFunctor) : Option XFunctor :=
  (M.spec_l06Make a0.Source a0.Target a0.Objects a0.Arrows).bind fun v1 =>
  some v1

def M.spec_l07Make (a0 : XFunctor) (a1 : XFunctor) (a2 : List Int) : Option XTransformation :=
  (M.spec_l07Own a0).bind fun v1 =>
  (M.spec_l07Own a1).bind fun v2 =>
  (M.spec_l01Own a2).bind fun v3 =>
  some (⟨v1, v2, v3⟩ : XTransformation)

def M.spec_l01Then (a0 : List Int) (a1 : List Int) : Option (List Int) :=
  iter (fun (s1 : (List Int) × Int) next2 =>
    if decide (s1.2 < (a0.length : Int)) then
      (idx a0 s1.2).bind fun y6 =>
      (idx a1 y6).bind fun y7 =>
      chk (s1.1.length + (([y7] : List Int).length) ≤ lim) (
        next2 (s1.1 ++ ([y7] : List Int), IntKind.i64.wrap (s1.2 + 1)))
    else
      some s1.1) fuel (([] : List Int), 0)

def M.spec_l07Self (a0 : XFunctor) : Option (List Int) :=
  (M.spec_l01Then a0.Objects a0.Target.Identity).bind fun v1 =>
  some v1

def M.spec_IdentityTransformation (a0 : XFunctor) : Option (XTransformation × Int) :=
  (M.spec_l06Is a0).bind fun v1 =>
  if v1 then
    (M.spec_l07Self a0).bind fun v3 =>
    (M.spec_l07Make a0 a0 v3).bind fun v4 =>
    some (v4, 0)
  else
    some ((⟨(⟨(⟨0, [], [], [], []⟩ : XCategory), (⟨0, [], [], [], []⟩ : XCategory), [], []⟩ : XFunctor), (⟨(⟨0, [], [], [], []⟩ : XCategory), (⟨0, [], [], [], []⟩ : XCategory), [], []⟩ : XFunctor), []⟩ : XTransformation), 1)

def M.impl_Functor_copy (a0 : XFunctor) : Option XFunctor :=
  (M.impl_functor a0.Source a0.Target a0.Objects a0.Arrows).bind fun v1 =>
  some v1

def M.impl_transformation (a0 : XFunctor) (a1 : XFunctor) (a2 : List Int) : Option XTransformation :=
  (M.impl_Functor_copy a0).bind fun v1 =>
  (M.impl_Functor_copy a1).bind fun v2 =>
  (M.impl_clone a2).bind fun v3 =>
  some (⟨v1, v2, v3⟩ : XTransformation)

def M.impl_then (a0 : List Int) (a1 : List Int) : Option (List Int) :=
  chk ((0 : Int) ≤ (a0.length : Int) ∧ (a0.length : Int) ≤ (lim : Int)) (
    iter (fun (s2 : (List Int) × Int) next3 =>
      if decide (s2.2 < (a0.length : Int)) then
        (idx a0 s2.2).bind fun y7 =>
        (idx a1 y7).bind fun y8 =>
        (idx s2.1 s2.2).bind fun _ =>
        next3 (s2.1.set s2.2.toNat y8, IntKind.i64.wrap (s2.2 + 1))
      else
        some s2.1) fuel ((List.replicate (a0.length : Int).toNat (0 : Int)), 0))

def M.impl_IdentityTransformation (a0 : XFunctor) : Option (XTransformation × Int) :=
  (M.impl_Functor_isFunctor a0).bind fun v1 =>
  if v1 then
    (M.impl_then a0.Objects a0.Target.Identity).bind fun v3 =>
    (M.impl_transformation a0 a0 v3).bind fun v4 =>
    some (v4, 0)
  else
    some ((⟨(⟨(⟨0, [], [], [], []⟩ : XCategory), (⟨0, [], [], [], []⟩ : XCategory), [], []⟩ : XFunctor), (⟨(⟨0, [], [], [], []⟩ : XCategory), (⟨0, [], [], [], []⟩ : XCategory), [], []⟩ : XFunctor), []⟩ : XTransformation), 1)

def M.laws_eqTransformation (a0 : XTransformation) (a1 : XTransformation) : Option Bool :=
  (M.laws_eqFunctor a0.Source a1.Source).bind fun v1 =>
  if v1 then
    (M.laws_eqFunctor a0.Target a1.Target).bind fun v3 =>
    if v3 then
      (M.laws_eqInt64S a0.Components a1.Components).bind fun v5 =>
      if v5 then
        some true
      else
        some false
    else
      some false
  else
    some false

def M.laws_markTransformation (a0 : XTransformation) (a1 : Int) : Option (Int × XTransformation) :=
  (M.laws_markFunctor a0.Source a1).bind fun v1 =>
  (M.laws_markFunctor a0.Target v1.1).bind fun v2 =>
  (M.laws_markInt64S a0.Components v2.1).bind fun v3 =>
  some (v3.1, (⟨(⟨(⟨a0.Source.Source.Objects, v1.2.Source.From, v1.2.Source.To, v1.2.Source.Identity, v1.2.Source.Composites⟩ : XCategory), (⟨a0.Source.Target.Objects, v1.2.Target.From, v1.2.Target.To, v1.2.Target.Identity, v1.2.Target.Composites⟩ : XCategory), v1.2.Objects, v1.2.Arrows⟩ : XFunctor), (⟨(⟨a0.Target.Source.Objects, v2.2.Source.From, v2.2.Source.To, v2.2.Source.Identity, v2.2.Source.Composites⟩ : XCategory), (⟨a0.Target.Target.Objects, v2.2.Target.From, v2.2.Target.To, v2.2.Target.Identity, v2.2.Target.Composites⟩ : XCategory), v2.2.Objects, v2.2.Arrows⟩ : XFunctor), v3.2⟩ : XTransformation))

theorem M.len_markTransformation {a0 : XTransformation} {a1 : Int} {r : Int × XTransformation} (h : M.laws_markTransformation a0 a1 = some r) : a0.Source.Source.Objects = r.2.Source.Source.Objects ∧ a0.Source.Source.From.length = r.2.Source.Source.From.length ∧ a0.Source.Source.To.length = r.2.Source.Source.To.length ∧ a0.Source.Source.Identity.length = r.2.Source.Source.Identity.length ∧ a0.Source.Source.Composites.length = r.2.Source.Source.Composites.length ∧ a0.Source.Target.Objects = r.2.Source.Target.Objects ∧ a0.Source.Target.From.length = r.2.Source.Target.From.length ∧ a0.Source.Target.To.length = r.2.Source.Target.To.length ∧ a0.Source.Target.Identity.length = r.2.Source.Target.Identity.length ∧ a0.Source.Target.Composites.length = r.2.Source.Target.Composites.length ∧ a0.Source.Objects.length = r.2.Source.Objects.length ∧ a0.Source.Arrows.length = r.2.Source.Arrows.length ∧ a0.Target.Source.Objects = r.2.Target.Source.Objects ∧ a0.Target.Source.From.length = r.2.Target.Source.From.length ∧ a0.Target.Source.To.length = r.2.Target.Source.To.length ∧ a0.Target.Source.Identity.length = r.2.Target.Source.Identity.length ∧ a0.Target.Source.Composites.length = r.2.Target.Source.Composites.length ∧ a0.Target.Target.Objects = r.2.Target.Target.Objects ∧ a0.Target.Target.From.length = r.2.Target.Target.From.length ∧ a0.Target.Target.To.length = r.2.Target.Target.To.length ∧ a0.Target.Target.Identity.length = r.2.Target.Target.Identity.length ∧ a0.Target.Target.Composites.length = r.2.Target.Target.Composites.length ∧ a0.Target.Objects.length = r.2.Target.Objects.length ∧ a0.Target.Arrows.length = r.2.Target.Arrows.length ∧ a0.Components.length = r.2.Components.length := by
  unfold M.laws_markTransformation at h
  obtain ⟨v0, h0, h⟩ := bind_some' h
  have l0 := M.len_markFunctor h0
  obtain ⟨v1, h1, h⟩ := bind_some' h
  have l1 := M.len_markFunctor h1
  obtain ⟨v2, h2, h⟩ := bind_some' h
  have l2 := M.len_markInt64S h2
  obtain rfl := Option.some.inj h
  refine ⟨?_, ?_, ?_, ?_, ?_, ?_, ?_, ?_, ?_, ?_, ?_, ?_, ?_, ?_, ?_, ?_, ?_, ?_, ?_, ?_, ?_, ?_, ?_, ?_, ?_⟩ <;> dsimp only <;> omega
theorem rsC_eXTransformation (q : Nat) {x y : XTransformation} (h : x.Source.Source.Objects = y.Source.Source.Objects ∧ x.Source.Source.From.length = y.Source.Source.From.length ∧ x.Source.Source.To.length = y.Source.Source.To.length ∧ x.Source.Source.Identity.length = y.Source.Source.Identity.length ∧ x.Source.Source.Composites.length = y.Source.Source.Composites.length ∧ x.Source.Target.Objects = y.Source.Target.Objects ∧ x.Source.Target.From.length = y.Source.Target.From.length ∧ x.Source.Target.To.length = y.Source.Target.To.length ∧ x.Source.Target.Identity.length = y.Source.Target.Identity.length ∧ x.Source.Target.Composites.length = y.Source.Target.Composites.length ∧ x.Source.Objects.length = y.Source.Objects.length ∧ x.Source.Arrows.length = y.Source.Arrows.length ∧ x.Target.Source.Objects = y.Target.Source.Objects ∧ x.Target.Source.From.length = y.Target.Source.From.length ∧ x.Target.Source.To.length = y.Target.Source.To.length ∧ x.Target.Source.Identity.length = y.Target.Source.Identity.length ∧ x.Target.Source.Composites.length = y.Target.Source.Composites.length ∧ x.Target.Target.Objects = y.Target.Target.Objects ∧ x.Target.Target.From.length = y.Target.Target.From.length ∧ x.Target.Target.To.length = y.Target.Target.To.length ∧ x.Target.Target.Identity.length = y.Target.Target.Identity.length ∧ x.Target.Target.Composites.length = y.Target.Target.Composites.length ∧ x.Target.Objects.length = y.Target.Objects.length ∧ x.Target.Arrows.length = y.Target.Arrows.length ∧ x.Components.length = y.Components.length) : rsC q (eXTransformation.o x) = rsC q (eXTransformation.o y) := by
  obtain ⟨h0, h1, h2, h3, h4, h5, h6, h7, h8, h9, h10, h11, h12, h13, h14, h15, h16, h17, h18, h19, h20, h21, h22, h23, h24⟩ := h
  have e : ∀ z : XTransformation, rsC q (eXTransformation.o z) = [iv z.Source.Source.Objects, .rs (q + 1) 0 z.Source.Source.From.length, .rs (q + 1 + 1) 0 z.Source.Source.To.length, .rs (q + 1 + 1 + 1) 0 z.Source.Source.Identity.length, .rs (q + 1 + 1 + 1 + 1) 0 z.Source.Source.Composites.length, iv z.Source.Target.Objects, .rs (q + 1 + 1 + 1 + 1 + 1 + 1) 0 z.Source.Target.From.length, .rs (q + 1 + 1 + 1 + 1 + 1 + 1 + 1) 0 z.Source.Target.To.length, .rs (q + 1 + 1 + 1 + 1 + 1 + 1 + 1 + 1) 0 z.Source.Target.Identity.length, .rs (q + 1 + 1 + 1 + 1 + 1 + 1 + 1 + 1 + 1) 0 z.Source.Target.Composites.length, .rs (q + 1 + 1 + 1 + 1 + 1 + 1 + 1 + 1 + 1 + 1) 0 z.Source.Objects.length, .rs (q + 1 + 1 + 1 + 1 + 1 + 1 + 1 + 1 + 1 + 1 + 1) 0 z.Source.Arrows.length, iv z.Target.Source.Objects, .rs (q + 1 + 1 + 1 + 1 + 1 + 1 + 1 + 1 + 1 + 1 + 1 + 1 + 1) 0 z.Target.Source.From.length, .rs (q + 1 + 1 + 1 + 1 + 1 + 1 + 1 + 1 + 1 + 1 + 1 + 1 + 1 + 1) 0 z.Target.Source.To.length, .rs (q + 1 + 1 + 1 + 1 + 1 + 1 + 1 + 1 + 1 + 1 + 1 + 1 + 1 + 1 + 1) 0 z.Target.Source.Identity.length, .rs (q + 1 + 1 + 1 + 1 + 1 + 1 + 1 + 1 + 1 + 1 + 1 + 1 + 1 + 1 + 1 + 1) 0 z.Target.Source.Composites.length, iv z.Target.Target.Objects, .rs (q + 1 + 1 + 1 + 1 + 1 + 1 + 1 + 1 + 1 + 1 + 1 + 1 + 1 + 1 + 1 + 1 + 1 + 1) 0 z.Target.Target.From.length, .rs (q + 1 + 1 + 1 + 1 + 1 + 1 + 1 + 1 + 1 + 1 + 1 + 1 + 1 + 1 + 1 + 1 + 1 + 1 + 1) 0 z.Target.Target.To.length, .rs (q + 1 + 1 + 1 + 1 + 1 + 1 + 1 + 1 + 1 + 1 + 1 + 1 + 1 + 1 + 1 + 1 + 1 + 1 + 1 + 1) 0 z.Target.Target.Identity.length, .rs (q + 1 + 1 + 1 + 1 + 1 + 1 + 1 + 1 + 1 + 1 + 1 + 1 + 1 + 1 + 1 + 1 + 1 + 1 + 1 + 1 + 1) 0 z.Target.Target.Composites.length, .rs (q + 1 + 1 + 1 + 1 + 1 + 1 + 1 + 1 + 1 + 1 + 1 + 1 + 1 + 1 + 1 + 1 + 1 + 1 + 1 + 1 + 1 + 1) 0 z.Target.Objects.length, .rs (q + 1 + 1 + 1 + 1 + 1 + 1 + 1 + 1 + 1 + 1 + 1 + 1 + 1 + 1 + 1 + 1 + 1 + 1 + 1 + 1 + 1 + 1 + 1) 0 z.Target.Arrows.length, .rs (q + 1 + 1 + 1 + 1 + 1 + 1 + 1 + 1 + 1 + 1 + 1 + 1 + 1 + 1 + 1 + 1 + 1 + 1 + 1 + 1 + 1 + 1 + 1 + 1) 0 z.Components.length] := fun _ => rfl
  rw [e, e, h0, h1, h2, h3, h4, h5, h6, h7, h8, h9, h10, h11, h12, h13, h14, h15, h16, h17, h18, h19, h20, h21, h22, h23, h24]

def M.laws_heldTransformation (a0 : XTransformation) (a1 : Int) : Option Int :=
  (M.laws_heldFunctor a0.Source a1).bind fun v1 =>
  if decide (v1 < 0) then
    some (-1)
  else
    (M.laws_heldFunctor a0.Target v1).bind fun v3 =>
    if decide (v3 < 0) then
      some (-1)
    else
      (M.laws_heldInt64S a0.Components v3).bind fun v5 =>
      if decide (v5 < 0) then
        some (-1)
      else
        some v5

def M.laws_FnExactIdentityTransformation (a0 : XFunctor) : Option Bool :=
  (M.laws_szFunctor a0 1048576).bind fun v1 =>
  if decide (v1 < 0) then
    some true
  else
    (M.laws_toFunctor a0).bind fun v3 =>
    (M.spec_IdentityTransformation v3).bind fun v4 =>
    (M.impl_IdentityTransformation v3).bind fun v5 =>
    (M.laws_eqTransformation v5.1 v4.1).bind fun v6 =>
    if v6 then
      if v5.2 != v4.2 then
        some false
      else
        (M.laws_eqFunctor v3 v3).bind fun v9 =>
        if v9 then
          (M.laws_markFunctor v3 1).bind fun v11 =>
          if decide (v11.1 < 0) then
            some false
          else
            (M.laws_markTransformation v5.1 1).bind fun v13 =>
            (M.laws_heldTransformation v13.2 1).bind fun v14 =>
            if decide (v14 < 0) then
              some false
            else
              if v14 != v13.1 then
                some false
              else
                some true
        else
          some false
    else
      some false

end Go.Gx
