/- The law of FreeAlgebra. -/
import Derived.Test.YtpfdieaiogfihaaGxQp1
import Derived.Test.YtpfdieaiogfihaaGxw33M
namespace Go.Gx
open Classical
set_option maxHeartbeats 1000000

theorem FreeAlgebra_both {m : XMonad} (hm : SmallM m) (x : Int) : ∃ w w' w'', M.spec_FreeAlgebra m x = some (w, w', w'') ∧ M.impl_FreeAlgebra m x = some (w, w', w'') := by
  unfold M.spec_FreeAlgebra M.impl_FreeAlgebra
  rw [l16Is_eq hm, l02Object_eq, pairCode_eq hm (by simp) (by simp)]
  simp only [in_one]
  by_cases h1 : IsMon m
  case neg =>
    rw [dF h1, if_neg h1]
    exact ⟨_, _, _, rfl, rfl⟩
  by_cases h2 : 0 ≤ x ∧ x < m.On.Source.Objects
  case neg =>
    rw [dT h1, dF h2, if_pos h1, if_neg (fun e => h2 e.1)]
    exact ⟨_, _, _, rfl, rfl⟩
  have a := h1.1.at h2.1 h2.2
  rw [dT h1, dT h2, if_pos h1, if_pos ⟨h2, in_nil _⟩]
  unfold M.impl_Monad_free
  rw [monObject_eq h2.1 a.xo, idx_el h2.1 a.xo, idx_el h2.1 a.xj]
  exact ⟨_, _, _, rfl, rfl⟩

theorem law_FreeAlgebra {a0 : XMonad} {a1 : Int} (h0 : R.XMonad a0) : M.laws_FnExactFreeAlgebra a0 a1 = some true := by
  unfold M.laws_FnExactFreeAlgebra
  obtain ⟨v0, e0, hv0⟩ := szMonad_r (n := 1048576) (by decide) (by decide) (fitsM h0)
  rw [e0, Option.bind_some]
  rcases hv0 with ⟨z0, _⟩ | ⟨l0, u0, s0⟩
  · rw [if_pos (decide_eq_true z0)]
  · rw [if_neg (fun h => absurd (of_decide_eq_true h) (by omega))]
    rw [toMonad_eq s0, Option.bind_some]
    obtain ⟨w, w', w'', es, ei⟩ := FreeAlgebra_both s0 a1
    rw [es, ei]
    simp only [Option.bind_some]
    rw [eqMonad_refl s0]
    simp only [Option.bind_some, bne_self_eq_false, Bool.false_eq_true, if_false, if_true]

end Go.Gx
