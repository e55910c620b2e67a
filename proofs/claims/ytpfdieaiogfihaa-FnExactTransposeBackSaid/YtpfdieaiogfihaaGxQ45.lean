/- The law of TransposeBack. -/
import Derived.Test.YtpfdieaiogfihaaGxQj
import Derived.Test.YtpfdieaiogfihaaGxw45M
namespace Go.Gx
open Classical
set_option maxHeartbeats 1000000

theorem TransposeBack_both {a : XAdjunction} (sa : SmallA a) (x y f : Int) : ∃ w w', M.spec_TransposeBack a x y f = some (w, w') ∧ M.impl_TransposeBack a x y f = some (w, w') := by
  unfold M.spec_TransposeBack M.impl_TransposeBack M.spec_l15Back
  rw [l15Is_eq sa, objectsCode_eq sa, l15Ends_eq]
  by_cases h : IsAdj a
  case neg =>
    rw [dF h, if_neg h]
    exact ⟨_, _, rfl, rfl⟩
  have hc := h.1.f.1.1.shp
  have hd := h.1.f.2.1.1.shp
  have lt := hc.lto
  rw [dT h, if_pos h]
  by_cases h1 : (0 ≤ x ∧ x < a.Left.Source.Objects) ∧ (0 ≤ y ∧ y < a.Left.Target.Objects)
  case neg =>
    rw [if_neg h1, if_neg (fun e => h1 e.1)]
    exact ⟨_, _, rfl, rfl⟩
  obtain ⟨⟨x0, x1⟩, y0, y1⟩ := id h1
  have o := h.1.rob y0 y1
  have k := h.1.ak y0 y1
  have kx := (h.1.counit y0 y1).1
  rw [if_pos h1, idx_el y0 o.1]
  simp only [Option.bind_some, if_true, bne_self_eq_false, Bool.false_eq_true, if_false]
  rw [transposed_eq hc (w := cmp a.Left.Target (el a.Left.Arrows f) (el a.Counit y)) (fun r => by
    unfold M.impl_Adjunction_transposeBack
    rw [idx_el y0 kx, idx_el r.p (h.1.larr r.p r.q).1]
    simp only [Option.bind_some]
    rw [(h.1.lm r).ti hd k]; rfl)]
  by_cases h2 : 0 ≤ f ∧ f < (a.Left.Source.From.length : Int)
  case neg =>
    rw [if_neg h2, if_neg (show ¬ (((0 ≤ x ∧ x < a.Left.Source.Objects) ∧ (0 ≤ y ∧ y < a.Left.Target.Objects)) ∧ (0 ≤ f ∧ f < (a.Left.Source.From.length : Int))) from fun e => h2 e.2)]
    exact ⟨_, _, rfl, rfl⟩
  rw [if_pos h2, if_pos (show ((0 ≤ x ∧ x < a.Left.Source.Objects) ∧ (0 ≤ y ∧ y < a.Left.Target.Objects)) ∧ (0 ≤ f ∧ f < (a.Left.Source.From.length : Int)) from ⟨h1, h2⟩), idx_el h2.1 h2.2, idx_el h2.1 (by omega)]
  by_cases h3 : el a.Left.Source.From f = x
  case neg => refine ⟨0, 5, ?_, ?_⟩ <;> simp [h3]
  by_cases h4 : el a.Left.Source.To f = el a.Right.Objects y
  case neg => refine ⟨0, 5, ?_, ?_⟩ <;> simp [h3, h4]
  have r : Ar a.Left.Source f x (el a.Right.Objects y) := ⟨h2.1, h2.2, h3, h4⟩
  rw [idx_el y0 kx, idx_el r.p (h.1.larr r.p r.q).1]
  have t := (h.1.lm r).th hd k
  refine ⟨cmp a.Left.Target (el a.Left.Arrows f) (el a.Counit y), 0, ?_, ?_⟩ <;> simp [h3, h4, t]

theorem law_TransposeBack {a0 : XAdjunction} {a1 : Int} {a2 : Int} {a3 : Int} (h0 : R.XAdjunction a0) : M.laws_FnExactTransposeBack a0 a1 a2 a3 = some true := by
  unfold M.laws_FnExactTransposeBack
  obtain ⟨v0, e0, hv0⟩ := szAdjunction_r (n := 1048576) (by decide) (by decide) (fitsA h0)
  rw [e0, Option.bind_some]
  rcases hv0 with ⟨z0, _⟩ | ⟨l0, u0, s0⟩
  · rw [if_pos (decide_eq_true z0)]
  · rw [if_neg (fun h => absurd (of_decide_eq_true h) (by omega))]
    rw [toAdjunction_eq s0, Option.bind_some]
    obtain ⟨w, w', es, ei⟩ := TransposeBack_both s0 a1 a2 a3
    rw [es, ei]
    simp only [Option.bind_some]
    rw [eqAdjunction_refl s0]
    simp only [Option.bind_some, bne_self_eq_false, Bool.false_eq_true, if_false, if_true]

end Go.Gx
