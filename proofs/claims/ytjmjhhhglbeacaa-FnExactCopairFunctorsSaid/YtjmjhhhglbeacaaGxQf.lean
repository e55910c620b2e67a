/- Plain laws: two functors. -/
import Derived.Test.YtjmjhhhglbeacaaGxPh
import Derived.Test.YtjmjhhhglbeacaaGxvFM
namespace Go.Gx
open Classical
set_option maxHeartbeats 1000000

theorem l06Two_eq {f g : XFunctor} (hf : SmallF f) (hg : SmallF g) : M.spec_l06Two f g = some (if IsFun f ∧ IsFun g then 0 else 1) := by
  unfold M.spec_l06Two
  rw [l06Is_eq hf, l06Is_eq hg]
  by_cases h1 : IsFun f <;> by_cases h2 : IsFun g <;> simp [h1, h2]

theorem areTwo_eq {f g : XFunctor} (hf : SmallF f) (hg : SmallF g) : M.impl_areFunctors [f, g] = some (decide (IsFun f ∧ IsFun g)) := by
  rw [areFunctors_eq (by simp) (by simp [hf, hg])]
  simp only [List.mem_cons, List.not_mem_nil, or_false, forall_eq_or_imp, forall_eq]

/-- Small lists of small lists. -/
def SmallX (l : List (List Int)) : Prop := Small l ∧ ∀ r ∈ l, Small r
theorem SmallX.nil : SmallX [] := ⟨by simp, by simp⟩
theorem eqInt64SS_reflX {l : List (List Int)} (h : SmallX l) : M.laws_eqInt64SS l l = some true := eqInt64SS_refl h.1 h.2
theorem mh_X {l : List (List Int)} (h : SmallX l) : MH 1099511627776 M.laws_markInt64SS M.laws_heldInt64SS (fun _ _ => True) l := mh_SS h.1 h.2

theorem dT {p : Prop} [Decidable p] (h : p) : decide p = true := decide_eq_true h
theorem dF {p : Prop} [Decidable p] (h : ¬ p) : decide p = false := decide_eq_false h

theorem areNat2_eq {s t : XTransformation} (hs : SmallT s) (ht : SmallT t) : M.impl_areNatural [s, t] = some (decide (IsNat s ∧ IsNat t)) := by
  rw [areNatural_eq (by simp) (by simp [hs, ht])]
  simp only [List.mem_cons, List.not_mem_nil, or_false, forall_eq_or_imp, forall_eq]
end Go.Gx
