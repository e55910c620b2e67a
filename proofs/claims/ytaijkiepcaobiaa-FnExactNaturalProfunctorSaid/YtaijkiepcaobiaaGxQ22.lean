/- The law of NaturalProfunctor. -/
import Derived.Test.YtaijkiepcaobiaaGxQf
import Derived.Test.YtaijkiepcaobiaaGxQn
import Derived.Test.YtaijkiepcaobiaaGxv22M
namespace Go.Gx
open Classical
set_option maxHeartbeats 1000000

theorem NaturalProfunctor_both {f g : XFunctor} (hf : SmallF f) (hg : SmallF g) : ∃ r w, SmallP r ∧ M.spec_NaturalProfunctor f g = some (r, w) ∧ M.impl_NaturalProfunctor f g = some (r, w) := by
  unfold M.spec_NaturalProfunctor M.impl_NaturalProfunctor
  rw [l06Two_eq hf hg, areTwo_eq hf hg, l02Same_eq hf.s2 hg.s2, sameCategory_eq hf.s2 hg.s2]
  by_cases h : IsFun f ∧ IsFun g
  · by_cases h3 : f.Target = g.Target
    · have h2 := two_of h.1 h.2 h3
      rw [if_pos h, dT h, dT h3, l22Natural_eq hf.s1 hg.s1 h2, natural_eq hf.s1 hg.s1 h2]
      exact ⟨_, _, natP_small hf.s1 hg.s1 h2, rfl, rfl⟩
    · rw [if_pos h, dT h, dF h3]
      exact ⟨zeroP, _, zeroP_small, rfl, rfl⟩
  · rw [if_neg h, dF h]
    exact ⟨zeroP, _, zeroP_small, rfl, rfl⟩

theorem law_NaturalProfunctor {a0 : XFunctor} {a1 : XFunctor} (h0 : R.XFunctor a0) (h1 : R.XFunctor a1) : M.laws_FnExactNaturalProfunctor a0 a1 = some true := by
  unfold M.laws_FnExactNaturalProfunctor
  obtain ⟨v0, e0, hv0⟩ := szFunctor_r (n := 1048576) (by decide) (by decide) (fitsF h0)
  rw [e0]
  simp only [Option.bind_some, decide_eq_true_eq]
  split
  · rfl
  · obtain ⟨l0, u0, s0⟩ : 0 ≤ v0 ∧ v0 ≤ 1048576 ∧ SmallF a0 := by
      rcases hv0 with ⟨z, _⟩ | z
      · exact absurd z ‹_›
      · exact z
    obtain ⟨v1, e1, hv1⟩ := szFunctor_r (n := v0) l0 (by omega) (fitsF h1)
    rw [e1]
    simp only [Option.bind_some]
    split
    · rfl
    · obtain ⟨l1, u1, s1⟩ : 0 ≤ v1 ∧ v1 ≤ v0 ∧ SmallF a1 := by
        rcases hv1 with ⟨z, _⟩ | z
        · exact absurd z ‹_›
        · exact z
      rw [toFunctor_eq s0, toFunctor_eq s1]
      simp only [Option.bind_some]
      obtain ⟨g, w, hg, es, ei⟩ := NaturalProfunctor_both s0 s1
      rw [es, ei]
      simp only [Option.bind_some]
      rw [eqProfunctor_refl hg, eqFunctor_refl s0, eqFunctor_refl s1]
      obtain ⟨n0, x0, p0, q0, c0, d0, _⟩ := mh_F s0 1 (by omega) (by omega)
      obtain ⟨n1, x1, p1, q1, c1, d1, _⟩ := mh_F s1 (1 + n0) (by omega) (by omega)
      obtain ⟨n2, x2, p2, q2, c2, d2, _⟩ := mh_P hg 1 (by omega) (by omega)
      simp only [Option.bind_some, bne_self_eq_false, Bool.false_eq_true, if_false, if_true, c0, c1, c2, d2]
      rw [if_neg (by omega), if_neg (by omega)]

end Go.Gx
