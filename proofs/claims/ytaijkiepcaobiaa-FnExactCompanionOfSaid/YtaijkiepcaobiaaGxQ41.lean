/- The law of CompanionOf. -/
import Derived.Test.YtaijkiepcaobiaaGxQn
import Derived.Test.YtaijkiepcaobiaaGxv41M
namespace Go.Gx
open Classical
set_option maxHeartbeats 1000000

theorem CompanionOf_both {f : XFunctor} (hf : SmallF f) : ∃ r w, SmallP r ∧ M.spec_CompanionOf f = some (r, w) ∧ M.impl_CompanionOf f = some (r, w) := by
  unfold M.spec_CompanionOf M.impl_CompanionOf M.impl_companion
  rw [l06Is_eq hf, isFunctor_eq hf]
  by_cases h : IsFun f
  · have hS := h.2.1.1.shp
    have h2 : Two f (idF f.Target) := two_of h (idF_fun h.2.1) rfl
    have hi : SmallC (idF f.Target).Source := hf.s2
    rw [decide_eq_true h, l06Self_eq hf.s2 hS, identity_eq hf.s2 hS]
    simp only [Option.bind_some, if_true]
    rw [l22Natural_eq hf.s1 hi h2, natural_eq hf.s1 hi h2]
    exact ⟨_, _, natP_small hf.s1 hi h2, rfl, rfl⟩
  · rw [decide_eq_false h]
    exact ⟨zeroP, _, zeroP_small, rfl, rfl⟩

theorem law_CompanionOf {a0 : XFunctor} (h0 : R.XFunctor a0) : M.laws_FnExactCompanionOf a0 = some true := by
  unfold M.laws_FnExactCompanionOf
  obtain ⟨v0, e0, hv0⟩ := szFunctor_r (n := 1048576) (by decide) (by decide) (fitsF h0)
  rw [e0]
  simp only [Option.bind_some, decide_eq_true_eq]
  split
  · rfl
  · obtain ⟨l0, u0, s0⟩ : 0 ≤ v0 ∧ v0 ≤ 1048576 ∧ SmallF a0 := by
      rcases hv0 with ⟨z, _⟩ | z
      · exact absurd z ‹_›
      · exact z
    rw [toFunctor_eq s0]
    simp only [Option.bind_some]
    obtain ⟨g, w, hg, es, ei⟩ := CompanionOf_both s0
    rw [es, ei]
    simp only [Option.bind_some]
    rw [eqProfunctor_refl hg, eqFunctor_refl s0]
    obtain ⟨n0, x0, p0, q0, c0, d0, _⟩ := mh_F s0 1 (by omega) (by omega)
    obtain ⟨n1, x1, p1, q1, c1, d1, _⟩ := mh_P hg 1 (by omega) (by omega)
    simp only [Option.bind_some, bne_self_eq_false, Bool.false_eq_true, if_false, if_true, c0, c1, d1]
    rw [if_neg (by omega), if_neg (by omega)]

end Go.Gx
