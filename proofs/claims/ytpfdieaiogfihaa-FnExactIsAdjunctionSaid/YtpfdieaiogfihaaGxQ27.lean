/- The law of IsAdjunction. -/
import Derived.Test.YtpfdieaiogfihaaGxQa
import Derived.Test.YtpfdieaiogfihaaGxw27M
namespace Go.Gx
open Classical
set_option maxHeartbeats 1000000

theorem IsAdjunction_both {a : XAdjunction} (sa : SmallA a) : ∃ w, M.spec_IsAdjunction a = some w ∧ M.impl_IsAdjunction a = some w := by
  unfold M.spec_IsAdjunction M.impl_IsAdjunction
  rw [l15Is_eq sa, isAdjunction_eq sa]
  exact ⟨_, rfl, rfl⟩

theorem law_IsAdjunction {a0 : XAdjunction} (h0 : R.XAdjunction a0) : M.laws_FnExactIsAdjunction a0 = some true := by
  unfold M.laws_FnExactIsAdjunction
  obtain ⟨v0, e0, hv0⟩ := szAdjunction_r (n := 1048576) (by decide) (by decide) (fitsA h0)
  rw [e0, Option.bind_some]
  rcases hv0 with ⟨z0, _⟩ | ⟨l0, u0, s0⟩
  · rw [if_pos (decide_eq_true z0)]
  · rw [if_neg (fun h => absurd (of_decide_eq_true h) (by omega))]
    rw [toAdjunction_eq s0, Option.bind_some]
    obtain ⟨w, es, ei⟩ := IsAdjunction_both s0
    have hb0 : ((w == w) == false) = false := by cases w <;> rfl
    rw [es, ei]
    simp only [Option.bind_some]
    rw [eqAdjunction_refl s0]
    simp only [Option.bind_some, Bool.false_eq_true, if_false, if_true, hb0]

end Go.Gx
