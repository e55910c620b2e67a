/- Laid together: part 4. -/
import Derived.Test.YtiikkfdehbcfaaaGxEP3
import Derived.Test.YtiikkfdehbcfaaaGxEM3
/- The law of IsCocone. -/
namespace Go.Gx
open Classical
set_option maxHeartbeats 1000000

theorem IsCocone_both {f : XFunctor} {p : XCone} (sf : SmallF f) (sp : SmallN p) : ∃ w w', M.spec_IsCocone f p = some (w, w') ∧ M.impl_IsCocone f p = some (w, w') := by
  by_cases h : IsFun f
  · have hG := opF_fun h
    refine ⟨decide (ConP (opF f) p), 0, ?_, ?_⟩
    · unfold M.spec_IsCocone
      rw [l06Is_eq sf, decide_eq_true h, Option.bind_some, if_pos rfl, l06Op_eq sf h.1.1.shp h.2.1.1.shp, Option.bind_some, l12Cone_eq hG sp]; rfl
    · unfold M.impl_IsCocone M.impl_coconesOf M.impl_cocones_diagram
      rw [isFunctor_eq sf, decide_eq_true h, Option.bind_some, if_pos rfl, Functor_opposite_eq sf h.1.1.shp h.2.1.1.shp, Option.bind_some, Option.bind_some, Option.bind_some, isCone_eq hG sp]; rfl
  · refine ⟨false, 1, ?_, ?_⟩
    · unfold M.spec_IsCocone
      rw [l06Is_eq sf, decide_eq_false h]; rfl
    · unfold M.impl_IsCocone
      rw [isFunctor_eq sf, decide_eq_false h]; rfl

theorem law_IsCocone {a0 : XFunctor} {a1 : XCone} (h0 : R.XFunctor a0) (h1 : R.XCone a1) : M.laws_FnExactIsCocone a0 a1 = some true := by
  unfold M.laws_FnExactIsCocone
  obtain ⟨v0, e0, hv0⟩ := szFunctor_r (n := 1048576) (by decide) (by decide) (fitsF h0)
  rw [e0, Option.bind_some]
  rcases hv0 with ⟨z0, _⟩ | ⟨l0, u0, s0⟩
  · rw [if_pos (decide_eq_true z0)]
  · rw [if_neg (fun h => absurd (of_decide_eq_true h) (by omega))]
    obtain ⟨v1, e1, hv1⟩ := szCone_r (n := v0) l0 (by omega) (fitsN h1)
    rw [e1, Option.bind_some]
    rcases hv1 with ⟨z1, _⟩ | ⟨l1, u1, s1⟩
    · rw [if_pos (decide_eq_true z1)]
    · rw [if_neg (fun h => absurd (of_decide_eq_true h) (by omega))]
      rw [toFunctor_eq s0, Option.bind_some, toCone_eq s1, Option.bind_some]
      obtain ⟨w, w', es, ei⟩ := IsCocone_both s0 s1
      have hb0 : ((w == w) == false) = false := by cases w <;> rfl
      rw [es, ei]
      simp only [Option.bind_some]
      rw [eqFunctor_refl s0, eqCone_refl s1]
      simp only [Option.bind_some, bne_self_eq_false, Bool.false_eq_true, if_false, if_true, hb0]

end Go.Gx
