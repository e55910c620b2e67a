/- Models of the functions. Printed by wip/gen. -/
import Derived.Test.YtjmjhhhglbeacaaGxNuM
import Derived.Test.YtjmjhhhglbeacaaGxE1
namespace Go.Gx

structure XSetFunctor where
  Shape : XCategory
  Sizes : List Int
  Actions : List (List Int)
def eXSetFunctor : Enc XSetFunctor := (eA (eC eXCategory XSetFunctor.Shape) (eA (eC (eS eI) XSetFunctor.Sizes) (eC (eS (eS eI)) XSetFunctor.Actions)))
def R.XSetFunctor (x : XSetFunctor) : Prop := (R.XCategory x.Shape) ∧ (AllL I64 x.Sizes) ∧ (AllL (AllL I64) x.Actions)
theorem eXSetFunctor_nb : EncNb eXSetFunctor := (eA_nb (eC_nb eXCategory_nb _) (eA_nb (eC_nb (eS_nb eI_nb) _) (eC_nb (eS_nb (eS_nb eI_nb)) _)))

structure XSetMap where
  Source : XSetFunctor
  Target : XSetFunctor
  Parts : List (List Int)
def R.XSetMap (x : XSetMap) : Prop := (R.XSetFunctor x.Source) ∧ (R.XSetFunctor x.Target) ∧ (AllL (AllL I64) x.Parts)
def M.laws_eqSetFunctor (a0 : XSetFunctor) (a1 : XSetFunctor) : Option Bool :=
  (M.laws_eqCategory a0.Shape a1.Shape).bind fun v1 =>
  if v1 then
    (M.laws_eqInt64S a0.Sizes a1.Sizes).bind fun v3 =>
    if v3 then
      (M.laws_eqInt64SS a0.Actions a1.Actions).bind fun v5 =>
      if v5 then
        some true
      else
        some false
    else
      some false
  else
    some false

def M.laws_markSetFunctor (a0 : XSetFunctor) (a1 : Int) : Option (Int × XSetFunctor) :=
  (M.laws_markCategory a0.Shape a1).bind fun v1 =>
  (M.laws_markInt64S a0.Sizes v1.1).bind fun v2 =>
  (M.laws_markInt64SS a0.Actions v2.1).bind fun v3 =>
  some (v3.1, (⟨(⟨a0.Shape.Objects, v1.2.From, v1.2.To, v1.2.Identity, v1.2.Composites⟩ : XCategory), v2.2, v3.2⟩ : XSetFunctor))

theorem M.len_markSetFunctor {a0 : XSetFunctor} {a1 : Int} {r : Int × XSetFunctor} (h : M.laws_markSetFunctor a0 a1 = some r) : a0.Shape.Objects = r.2.Shape.Objects ∧ a0.Shape.From.length = r.2.Shape.From.length ∧ a0.Shape.To.length = r.2.Shape.To.length ∧ a0.Shape.Identity.length = r.2.Shape.Identity.length ∧ a0.Shape.Composites.length = r.2.Shape.Composites.length ∧ a0.Sizes.length = r.2.Sizes.length ∧ a0.Actions.length = r.2.Actions.length := by
  unfold M.laws_markSetFunctor at h
  obtain ⟨v0, h0, h⟩ := bind_some' h
  have l0 := M.len_markCategory h0
  obtain ⟨v1, h1, h⟩ := bind_some' h
  have l1 := M.len_markInt64S h1
  obtain ⟨v2, h2, h⟩ := bind_some' h
  have l2 := M.len_markInt64SS h2
  obtain rfl := Option.some.inj h
  refine ⟨?_, ?_, ?_, ?_, ?_, ?_, ?_⟩ <;> dsimp only <;> omega
theorem rsC_eXSetFunctor (q : Nat) {x y : XSetFunctor} (h : x.Shape.Objects = y.Shape.Objects ∧ x.Shape.From.length = y.Shape.From.length ∧ x.Shape.To.length = y.Shape.To.length ∧ x.Shape.Identity.length = y.Shape.Identity.length ∧ x.Shape.Composites.length = y.Shape.Composites.length ∧ x.Sizes.length = y.Sizes.length ∧ x.Actions.length = y.Actions.length) : rsC q (eXSetFunctor.o x) = rsC q (eXSetFunctor.o y) := by
  obtain ⟨h0, h1, h2, h3, h4, h5, h6⟩ := h
  have e : ∀ z : XSetFunctor, rsC q (eXSetFunctor.o z) = [iv z.Shape.Objects, .rs (q + 1) 0 z.Shape.From.length, .rs (q + 1 + 1) 0 z.Shape.To.length, .rs (q + 1 + 1 + 1) 0 z.Shape.Identity.length, .rs (q + 1 + 1 + 1 + 1) 0 z.Shape.Composites.length, .rs (q + 1 + 1 + 1 + 1 + 1) 0 z.Sizes.length, .rs (q + 1 + 1 + 1 + 1 + 1 + 1) 0 z.Actions.length] := fun _ => rfl
  rw [e, e, h0, h1, h2, h3, h4, h5, h6]

def M.laws_heldSetFunctor (a0 : XSetFunctor) (a1 : Int) : Option Int :=
  (M.laws_heldCategory a0.Shape a1).bind fun v1 =>
  if decide (v1 < 0) then
    some (-1)
  else
    (M.laws_heldInt64S a0.Sizes v1).bind fun v3 =>
    if decide (v3 < 0) then
      some (-1)
    else
      (M.laws_heldInt64SS a0.Actions v3).bind fun v5 =>
      if decide (v5 < 0) then
        some (-1)
      else
        some v5

end Go.Gx
