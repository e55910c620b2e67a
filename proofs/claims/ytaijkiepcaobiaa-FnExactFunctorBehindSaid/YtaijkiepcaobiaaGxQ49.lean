/- The law of FunctorBehind. -/
import Derived.Test.YtaijkiepcaobiaaGxQf
import Derived.Test.YtaijkiepcaobiaaGxv49M
namespace Go.Gx
open Classical
set_option maxHeartbeats 1000000

theorem FunctorBehind_both {t : XTransformation} {g : XFunctor} (ht : SmallT t) (hg : SmallF g) : ∃ r w, SmallT r ∧ M.spec_FunctorBehind t g = some (r, w) ∧ M.impl_FunctorBehind t g = some (r, w) := by
  unfold M.spec_FunctorBehind M.impl_FunctorBehind M.spec_l07Behind
  rw [l06Is_eq hg, l07Is_eq ht, isFunctor_eq hg, isNatural_eq ht, l02Same_eq hg.s1 ht.s1.s2, sameCategory_eq hg.s1 ht.s1.s2]
  by_cases h2 : IsNat t
  · by_cases h1 : IsFun g
    · by_cases h3 : g.Source = t.Source.Target
      · obtain ⟨⟨t1, t2, tp, te⟩, _⟩ := id h2
        have m1 : Meet t.Source g := meet_of t1 h1 h3.symm
        have m2 : Meet t.Target g := meet_of t2 h1 (tp.2.symm.trans h3.symm)
        have c1 : In (g.Arrows.length : Int) t.Components := fun i h0 h4 => by
          have h5 := te.2.1 i h0 h4
          have h6 := h1.2.2.la
          rw [h3] at h6; omega
        rw [dT h2, dT h1, dT h3, l06Then_eq ht.s1 hg m1, l06Then_eq ht.s2 hg m2, l01Then_eq ht.s3 c1, Functor_then_eq ht.s1 hg m1, Functor_then_eq ht.s2 hg m2, then2_eq ht.s3 c1]
        simp only [Option.bind_some, if_true]
        rw [l07Make_eq (thenF_small ht.s1 hg) (thenF_small ht.s2 hg) (thenL_small ht.s3), transformation_eq (thenF_small ht.s1 hg) (thenF_small ht.s2 hg) (thenL_small ht.s3)]
        exact ⟨_, _, ⟨thenF_small ht.s1 hg, thenF_small ht.s2 hg, thenL_small ht.s3⟩, rfl, rfl⟩
      · rw [dT h2, dT h1, dF h3]
        exact ⟨zeroT, _, zeroT_small, rfl, rfl⟩
    · rw [dT h2, dF h1]
      exact ⟨zeroT, _, zeroT_small, rfl, rfl⟩
  · rw [dF h2]
    exact ⟨zeroT, _, zeroT_small, rfl, rfl⟩

theorem law_FunctorBehind {a0 : XTransformation} {a1 : XFunctor} (h0 : R.XTransformation a0) (h1 : R.XFunctor a1) : M.laws_FnExactFunctorBehind a0 a1 = some true := by
  unfold M.laws_FnExactFunctorBehind
  obtain ⟨v0, e0, hv0⟩ := szTransformation_r (n := 1048576) (by decide) (by decide) (fitsT h0)
  rw [e0]
  simp only [Option.bind_some, decide_eq_true_eq]
  split
  · rfl
  · obtain ⟨l0, u0, s0⟩ : 0 ≤ v0 ∧ v0 ≤ 1048576 ∧ SmallT a0 := by
      rcases hv0 with ⟨z, _⟩ | z
      · exact absurd z ‹_›
      · exact z
    obtain ⟨v1, e1, hv1⟩ := szFunctor_r (n := v0) l0 (by omega) (fitsF h1)
    rw [e1]
    simp only [Option.bind_some]
    split
    · rfl
    · obtain ⟨l1, u1, s1⟩ : 0 ≤ v1 ∧ v1 ≤ v0 ∧ SmallF a1 := by
        rcases hv1 with ⟨z, _⟩ | z
        · exact absurd z ‹_›
        · exact z
      rw [toTransformation_eq s0, toFunctor_eq s1]
      simp only [Option.bind_some]
      obtain ⟨g, w, hg, es, ei⟩ := FunctorBehind_both s0 s1
      rw [es, ei]
      simp only [Option.bind_some]
      rw [eqTransformation_refl hg, eqTransformation_refl s0, eqFunctor_refl s1]
      obtain ⟨n0, x0, p0, q0, c0, d0, _⟩ := mh_T s0 1 (by omega) (by omega)
      obtain ⟨n1, x1, p1, q1, c1, d1, _⟩ := mh_F s1 (1 + n0) (by omega) (by omega)
      obtain ⟨n2, x2, p2, q2, c2, d2, _⟩ := mh_T hg 1 (by omega) (by omega)
      simp only [Option.bind_some, bne_self_eq_false, Bool.false_eq_true, if_false, if_true, c0, c1, c2, d2]
      rw [if_neg (by omega), if_neg (by omega)]

end Go.Gx
