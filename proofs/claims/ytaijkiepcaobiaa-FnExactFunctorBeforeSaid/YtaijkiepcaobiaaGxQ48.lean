/- The law of FunctorBefore. -/
import Derived.Test.YtaijkiepcaobiaaGxQf
import Derived.Test.YtaijkiepcaobiaaGxv48M
namespace Go.Gx
open Classical
set_option maxHeartbeats 1000000

theorem FunctorBefore_both {f : XFunctor} {t : XTransformation} (hf : SmallF f) (ht : SmallT t) : ∃ r w, SmallT r ∧ M.spec_FunctorBefore f t = some (r, w) ∧ M.impl_FunctorBefore f t = some (r, w) := by
  unfold M.spec_FunctorBefore M.impl_FunctorBefore M.spec_l07Before
  rw [l06Is_eq hf, l07Is_eq ht, isFunctor_eq hf, isNatural_eq ht, l02Same_eq hf.s2 ht.s1.s1, sameCategory_eq hf.s2 ht.s1.s1]
  by_cases h1 : IsFun f
  · by_cases h2 : IsNat t
    · by_cases h3 : f.Target = t.Source.Source
      · obtain ⟨⟨t1, t2, tp, te⟩, _⟩ := id h2
        have m1 : Meet f t.Source := meet_of h1 t1 h3
        have m2 : Meet f t.Target := meet_of h1 t2 (h3.trans tp.1)
        have c1 : In (t.Components.length : Int) f.Objects := fun i h0 h4 => by
          have := h1.2.2.ino i h0 h4
          have := te.1
          rw [h3] at *; omega
        rw [dT h1, dT h2, dT h3, l06Then_eq hf ht.s1 m1, l06Then_eq hf ht.s2 m2, l01Then_eq hf.s3 c1, Functor_then_eq hf ht.s1 m1, Functor_then_eq hf ht.s2 m2, then2_eq hf.s3 c1]
        simp only [Option.bind_some, if_true]
        rw [l07Make_eq (thenF_small hf ht.s1) (thenF_small hf ht.s2) (thenL_small hf.s3), transformation_eq (thenF_small hf ht.s1) (thenF_small hf ht.s2) (thenL_small hf.s3)]
        exact ⟨_, _, ⟨thenF_small hf ht.s1, thenF_small hf ht.s2, thenL_small hf.s3⟩, rfl, rfl⟩
      · rw [dT h1, dT h2, dF h3]
        exact ⟨zeroT, _, zeroT_small, rfl, rfl⟩
    · rw [dT h1, dF h2]
      exact ⟨zeroT, _, zeroT_small, rfl, rfl⟩
  · rw [dF h1]
    exact ⟨zeroT, _, zeroT_small, rfl, rfl⟩

theorem law_FunctorBefore {a0 : XFunctor} {a1 : XTransformation} (h0 : R.XFunctor a0) (h1 : R.XTransformation a1) : M.laws_FnExactFunctorBefore a0 a1 = some true := by
  unfold M.laws_FnExactFunctorBefore
  obtain ⟨v0, e0, hv0⟩ := szFunctor_r (n := 1048576) (by decide) (by decide) (fitsF h0)
  rw [e0]
  simp only [Option.bind_some, decide_eq_true_eq]
  split
  · rfl
  · obtain ⟨l0, u0, s0⟩ : 0 ≤ v0 ∧ v0 ≤ 1048576 ∧ SmallF a0 := by
      rcases hv0 with ⟨z, _⟩ | z
      · exact absurd z ‹_›
      · exact z
    obtain ⟨v1, e1, hv1⟩ := szTransformation_r (n := v0) l0 (by omega) (fitsT h1)
    rw [e1]
    simp only [Option.bind_some]
    split
    · rfl
    · obtain ⟨l1, u1, s1⟩ : 0 ≤ v1 ∧ v1 ≤ v0 ∧ SmallT a1 := by
        rcases hv1 with ⟨z, _⟩ | z
        · exact absurd z ‹_›
        · exact z
      rw [toFunctor_eq s0, toTransformation_eq s1]
      simp only [Option.bind_some]
      obtain ⟨g, w, hg, es, ei⟩ := FunctorBefore_both s0 s1
      rw [es, ei]
      simp only [Option.bind_some]
      rw [eqTransformation_refl hg, eqFunctor_refl s0, eqTransformation_refl s1]
      obtain ⟨n0, x0, p0, q0, c0, d0, _⟩ := mh_F s0 1 (by omega) (by omega)
      obtain ⟨n1, x1, p1, q1, c1, d1, _⟩ := mh_T s1 (1 + n0) (by omega) (by omega)
      obtain ⟨n2, x2, p2, q2, c2, d2, _⟩ := mh_T hg 1 (by omega) (by omega)
      simp only [Option.bind_some, bne_self_eq_false, Bool.false_eq_true, if_false, if_true, c0, c1, c2, d2]
      rw [if_neg (by omega), if_neg (by omega)]

end Go.Gx
