/- The law of TensorBehind. -/
import Derived.Test.YtjmjhhhglbeacaaGxQmc
import Derived.Test.YtjmjhhhglbeacaaGxy24M
namespace Go.Gx
open Classical
set_option maxHeartbeats 1000000

theorem mh_O {m : XMonoidal} (h : SmallO m) : ∀ k, 0 ≤ k → k + 3298538029056 ≤ 2305843009213693952 → ∃ n x', 0 ≤ n ∧ n ≤ 3298538029056 ∧ M.laws_markMonoidal m k = some (k + n, x') ∧ True ∧ True := by
  intro k h0 h1
  obtain ⟨n1, l1, a1, b1, e1, f1, g1⟩ := mh_C h.s1 k h0 (by omega)
  obtain ⟨n2, l2, a2, b2, e2, f2, _⟩ := mh_SS h.s2 h.s3 (k + n1) (by omega) (by omega)
  obtain ⟨n3, l3, a3, b3, e3, f3, _⟩ := mh_SS h.s4 h.s5 (k + n1 + n2) (by omega) (by omega)
  refine ⟨n1 + n2 + n3, ⟨l1, m.Unit, l2, l3⟩, by omega, by omega, ?_, trivial, trivial⟩
  unfold M.laws_markMonoidal
  simp only [e1, e2, e3, Option.bind_some, Option.some.injEq, Prod.mk.injEq]
  refine ⟨by omega, ?_⟩
  rw [← g1]

theorem TensorBehind_both {m : XMonoidal} (sm : SmallO m) (y : Int) : ∃ r w, SmallF r ∧ M.spec_TensorBehind m y = some (r, w) ∧ M.impl_TensorBehind m y = some (r, w) := by
  unfold M.spec_TensorBehind M.impl_TensorBehind
  have sl : Small ([y] : List Int) := by simp
  rw [l35Objects_eq sm sl, monoidalCode_eq sm sl]
  by_cases h : IsTen m
  · by_cases h2 : In m.On.Objects [y]
    · have hy := in_one.1 h2
      rw [if_pos h, if_pos h2]
      simp only [Option.bind_some, bne_self_eq_false, Bool.false_eq_true, if_false]
      rw [l35Behind_eq sm h hy.1 hy.2, behind_eq sm h hy.1 hy.2]
      exact ⟨_, _, behF_small sm h y, rfl, rfl⟩
    · rw [if_pos h, if_neg h2]
      exact ⟨zeroF, _, zeroF_small, rfl, rfl⟩
  · rw [if_neg h]
    exact ⟨zeroF, _, zeroF_small, rfl, rfl⟩

theorem law_TensorBehind {a0 : XMonoidal} {a1 : Int} (h0 : R.XMonoidal a0) : M.laws_FnExactTensorBehind a0 a1 = some true := by
  unfold M.laws_FnExactTensorBehind
  obtain ⟨v0, e0, hv0⟩ := szMonoidal_r (n := 1048576) (by decide) (by decide) (fitsO h0)
  rw [e0, Option.bind_some]
  rcases hv0 with ⟨z0, _⟩ | ⟨l0, u0, s0⟩
  · rw [if_pos (decide_eq_true z0)]
  · rw [if_neg (fun h => absurd (of_decide_eq_true h) (by omega))]
    rw [toMonoidal_eq s0, Option.bind_some]
    obtain ⟨g0, w, hg0, es, ei⟩ := TensorBehind_both s0 a1
    rw [es, ei]
    simp only [Option.bind_some]
    rw [eqFunctor_refl hg0, eqMonoidal_refl s0]
    obtain ⟨n0, x0, p0, q0, c0, d0, _⟩ := mh_O s0 1 (by omega) (by omega)
    obtain ⟨n1, x1, p1, q1, c1, d1, _⟩ := mh_F hg0 1 (by omega) (by omega)
    simp only [Option.bind_some, bne_self_eq_false, Bool.false_eq_true, if_false, if_true, decide_eq_true_eq, c0, c1, d1]
    rw [if_neg (by omega), if_neg (by omega)]

end Go.Gx
