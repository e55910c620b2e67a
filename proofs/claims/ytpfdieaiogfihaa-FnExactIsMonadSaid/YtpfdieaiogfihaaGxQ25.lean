/- The law of IsMonad. -/
import Derived.Test.YtpfdieaiogfihaaGxQm
import Derived.Test.YtpfdieaiogfihaaGxw25M
namespace Go.Gx
open Classical
set_option maxHeartbeats 1000000

theorem IsMonad_both {m : XMonad} (hm : SmallM m) : ∃ w, M.spec_IsMonad m = some w ∧ M.impl_IsMonad m = some w := by
  unfold M.spec_IsMonad M.impl_IsMonad
  rw [l16Is_eq hm, isMonad_eq hm]
  exact ⟨_, rfl, rfl⟩

theorem law_IsMonad {a0 : XMonad} (h0 : R.XMonad a0) : M.laws_FnExactIsMonad a0 = some true := by
  unfold M.laws_FnExactIsMonad
  obtain ⟨v0, e0, hv0⟩ := szMonad_r (n := 1048576) (by decide) (by decide) (fitsM h0)
  rw [e0, Option.bind_some]
  rcases hv0 with ⟨z0, _⟩ | ⟨l0, u0, s0⟩
  · rw [if_pos (decide_eq_true z0)]
  · rw [if_neg (fun h => absurd (of_decide_eq_true h) (by omega))]
    rw [toMonad_eq s0, Option.bind_some]
    obtain ⟨w, es, ei⟩ := IsMonad_both s0
    have hb0 : ((w == w) == false) = false := by cases w <;> rfl
    rw [es, ei]
    simp only [Option.bind_some]
    rw [eqMonad_refl s0]
    simp only [Option.bind_some, Bool.false_eq_true, if_false, if_true, hb0]

end Go.Gx
