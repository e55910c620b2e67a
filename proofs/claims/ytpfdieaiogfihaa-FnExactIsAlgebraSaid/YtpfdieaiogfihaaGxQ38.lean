/- The law of IsAlgebra. -/
import Derived.Test.YtpfdieaiogfihaaGxQk
import Derived.Test.YtpfdieaiogfihaaGxw38M
namespace Go.Gx
open Classical
set_option maxHeartbeats 1000000

theorem IsAlgebra_both {m : XMonad} (hm : SmallM m) (x h : Int) : ∃ w w', M.spec_IsAlgebra m x h = some (w, w') ∧ M.impl_IsAlgebra m x h = some (w, w') := by
  unfold M.spec_IsAlgebra M.impl_IsAlgebra
  rw [l17Pair_eq hm, pairCode_eq hm (by simp) (by simp)]
  simp only [in_one]
  by_cases h1 : IsMon m
  case neg =>
    rw [if_neg h1]
    exact ⟨_, _, rfl, rfl⟩
  by_cases h2 : (0 ≤ x ∧ x < m.On.Source.Objects) ∧ (0 ≤ h ∧ h < (m.On.Source.From.length : Int))
  case neg =>
    rw [if_pos h1, if_neg h2]
    exact ⟨_, _, rfl, rfl⟩
  rw [if_pos h1, if_pos h2, l17Is_eq h1.1 h2.1.1 h2.1.2 h2.2.1 h2.2.2, isAlgebra_eq h1.1 h2.1.1 h2.1.2 h2.2.1 h2.2.2]
  exact ⟨_, _, rfl, rfl⟩

theorem law_IsAlgebra {a0 : XMonad} {a1 : Int} {a2 : Int} (h0 : R.XMonad a0) : M.laws_FnExactIsAlgebra a0 a1 a2 = some true := by
  unfold M.laws_FnExactIsAlgebra
  obtain ⟨v0, e0, hv0⟩ := szMonad_r (n := 1048576) (by decide) (by decide) (fitsM h0)
  rw [e0, Option.bind_some]
  rcases hv0 with ⟨z0, _⟩ | ⟨l0, u0, s0⟩
  · rw [if_pos (decide_eq_true z0)]
  · rw [if_neg (fun h => absurd (of_decide_eq_true h) (by omega))]
    rw [toMonad_eq s0, Option.bind_some]
    obtain ⟨w, w', es, ei⟩ := IsAlgebra_both s0 a1 a2
    have hb0 : ((w == w) == false) = false := by cases w <;> rfl
    rw [es, ei]
    simp only [Option.bind_some]
    rw [eqMonad_refl s0]
    simp only [Option.bind_some, bne_self_eq_false, Bool.false_eq_true, if_false, if_true, hb0]

end Go.Gx
