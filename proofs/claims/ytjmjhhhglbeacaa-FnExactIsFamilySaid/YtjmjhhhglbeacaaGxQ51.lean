/- The law of ThenTransformations. -/
import Derived.Test.YtjmjhhhglbeacaaGxQf
import Derived.Test.YtjmjhhhglbeacaaGxP8
import Derived.Test.YtjmjhhhglbeacaaGxv51M
namespace Go.Gx
open Classical
set_option maxHeartbeats 1000000

theorem functor_eq_iff (f g : XFunctor) : f = g ↔ f.Source = g.Source ∧ f.Target = g.Target ∧ f.Objects = g.Objects ∧ f.Arrows = g.Arrows := by
  cases f; cases g; simp
theorem l06Same_eq {f g : XFunctor} (hf : SmallF f) (hg : SmallF g) : M.spec_l06Same f g = some (decide (f = g)) := by
  unfold M.spec_l06Same
  rw [l02Same_eq hf.s1 hg.s1, l02Same_eq hf.s2 hg.s2, l01Same_eq hf.s3 hg.s3, l01Same_eq hf.s4 hg.s4]
  simp only [Option.bind_some, decide_eq_true_eq, functor_eq_iff]
  by_cases h1 : f.Source = g.Source <;> by_cases h2 : f.Target = g.Target <;> by_cases h3 : f.Objects = g.Objects <;> simp [h1, h2, h3]
theorem sameFunctor_eq {f g : XFunctor} (hf : SmallF f) (hg : SmallF g) : M.impl_sameFunctor f g = some (decide (f = g)) := by
  unfold M.impl_sameFunctor
  rw [sameCategory_eq hf.s1 hg.s1, sameCategory_eq hf.s2 hg.s2, same_eq hf.s3 hg.s3, same_eq hf.s4 hg.s4]
  simp only [Option.bind_some, decide_eq_true_eq, functor_eq_iff]
  by_cases h1 : f.Source = g.Source <;> by_cases h2 : f.Target = g.Target <;> by_cases h3 : f.Objects = g.Objects <;> simp [h1, h2, h3]

theorem ThenTransformations_both {s t : XTransformation} (hs : SmallT s) (ht : SmallT t) : ∃ r w, SmallT r ∧ M.spec_ThenTransformations s t = some (r, w) ∧ M.impl_ThenTransformations s t = some (r, w) := by
  unfold M.spec_ThenTransformations M.impl_ThenTransformations
  rw [l07Is_eq hs, l07Is_eq ht, areNat2_eq hs ht, l06Same_eq hs.s2 ht.s1, sameFunctor_eq hs.s2 ht.s1]
  by_cases h1 : IsNat s
  · by_cases h2 : IsNat t
    · by_cases h3 : s.Target = t.Source
      · obtain ⟨⟨s1, s2, sp, se⟩, _⟩ := id h1
        obtain ⟨⟨t1, t2, tp, te⟩, _⟩ := id h2
        have hc : Shp s.Source.Target := s1.2.1.1.shp
        have e1 : s.Source.Target = t.Source.Target := by rw [← h3]; exact sp.2
        have e2 : s.Source.Source = t.Source.Source := by rw [← h3]; exact sp.1
        have l : s.Components.length = t.Components.length := by
          have a1 := se.1
          have a2 := te.1
          rw [← e2] at a2; omega
        have i2 : In (s.Source.Target.From.length : Int) t.Components := by rw [e1]; exact te.2.1
        rw [dT h1, dT h2, dT (show IsNat s ∧ IsNat t from ⟨h1, h2⟩), dT h3, l07Then_eq hc hs.s3 l se.2.1 i2, composed_eq hc hs.s3 l se.2.1 i2]
        simp only [Option.bind_some, if_true]
        rw [l07Make_eq hs.s1 ht.s2 (cmpL_small hs.s3), transformation_eq hs.s1 ht.s2 (cmpL_small hs.s3)]
        exact ⟨⟨s.Source, t.Target, cmpL s.Source.Target s.Components t.Components⟩, _, ⟨hs.s1, ht.s2, cmpL_small hs.s3⟩, rfl, rfl⟩
      · rw [dT h1, dT h2, dT (show IsNat s ∧ IsNat t from ⟨h1, h2⟩), dF h3]
        exact ⟨zeroT, _, zeroT_small, rfl, rfl⟩
    · rw [dT h1, dF h2, dF (show ¬ (IsNat s ∧ IsNat t) from fun h => h2 h.2)]
      exact ⟨zeroT, _, zeroT_small, rfl, rfl⟩
  · rw [dF h1, dF (show ¬ (IsNat s ∧ IsNat t) from fun h => h1 h.1)]
    exact ⟨zeroT, _, zeroT_small, rfl, rfl⟩

theorem law_ThenTransformations {a0 : XTransformation} {a1 : XTransformation} (h0 : R.XTransformation a0) (h1 : R.XTransformation a1) : M.laws_FnExactThenTransformations a0 a1 = some true := by
  unfold M.laws_FnExactThenTransformations
  obtain ⟨v0, e0, hv0⟩ := szTransformation_r (n := 1048576) (by decide) (by decide) (fitsT h0)
  rw [e0, Option.bind_some]
  rcases hv0 with ⟨z0, _⟩ | ⟨l0, u0, s0⟩
  · rw [if_pos (decide_eq_true z0)]
  · rw [if_neg (fun h => absurd (of_decide_eq_true h) (by omega))]
    obtain ⟨v1, e1, hv1⟩ := szTransformation_r (n := v0) l0 (by omega) (fitsT h1)
    rw [e1, Option.bind_some]
    rcases hv1 with ⟨z1, _⟩ | ⟨l1, u1, s1⟩
    · rw [if_pos (decide_eq_true z1)]
    · rw [if_neg (fun h => absurd (of_decide_eq_true h) (by omega))]
      rw [toTransformation_eq s0, Option.bind_some, toTransformation_eq s1, Option.bind_some]
      obtain ⟨g0, w, hg0, es, ei⟩ := ThenTransformations_both s0 s1
      rw [es, ei]
      simp only [Option.bind_some]
      rw [eqTransformation_refl hg0, eqTransformation_refl s0, eqTransformation_refl s1]
      obtain ⟨n0, x0, p0, q0, c0, d0, _⟩ := mh_T s0 1 (by omega) (by omega)
      obtain ⟨n1, x1, p1, q1, c1, d1, _⟩ := mh_T s1 (1 + n0) (by omega) (by omega)
      obtain ⟨n2, x2, p2, q2, c2, d2, _⟩ := mh_T hg0 1 (by omega) (by omega)
      simp only [Option.bind_some, bne_self_eq_false, Bool.false_eq_true, if_false, if_true, decide_eq_true_eq, c0, c1, c2, d2]
      rw [if_neg (by omega), if_neg (by omega)]

end Go.Gx
