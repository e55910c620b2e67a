/- The law of IsIdempotentMonad. -/
import Derived.Test.YtpfdieaiogfihaaGxQm
import Derived.Test.YtpfdieaiogfihaaGxQe
import Derived.Test.YtpfdieaiogfihaaGxw46M
namespace Go.Gx
open Classical
set_option maxHeartbeats 1000000

theorem IsIdempotentMonad_both {m : XMonad} (hm : SmallM m) : ∃ w w', M.spec_IsIdempotentMonad m = some (w, w') ∧ M.impl_IsIdempotentMonad m = some (w, w') := by
  unfold M.spec_IsIdempotentMonad M.impl_IsIdempotentMonad
  rw [l16Is_eq hm, isMonad_eq hm]
  by_cases h : IsMon m
  case neg =>
    rw [dF h]
    exact ⟨_, _, rfl, rfl⟩
  have hc := h.1.f.1.1.shp
  have n8 := hc.n8
  have lj : (m.Join.length : Int) = m.On.Source.Objects := h.1.j.1.2.2.2.1
  have ij : In (m.On.Source.From.length : Int) m.Join := by
    have := h.1.j.1.2.2.2.2.1
    have e := h.1.e
    rw [e]; exact this
  rw [dT h]
  simp only [Option.bind_some, if_true]
  rw [l15Isos_eq hc (by omega) ij, isos_eq hc (by omega) ij]
  exact ⟨_, _, rfl, rfl⟩

theorem law_IsIdempotentMonad {a0 : XMonad} (h0 : R.XMonad a0) : M.laws_FnExactIsIdempotentMonad a0 = some true := by
  unfold M.laws_FnExactIsIdempotentMonad
  obtain ⟨v0, e0, hv0⟩ := szMonad_r (n := 1048576) (by decide) (by decide) (fitsM h0)
  rw [e0, Option.bind_some]
  rcases hv0 with ⟨z0, _⟩ | ⟨l0, u0, s0⟩
  · rw [if_pos (decide_eq_true z0)]
  · rw [if_neg (fun h => absurd (of_decide_eq_true h) (by omega))]
    rw [toMonad_eq s0, Option.bind_some]
    obtain ⟨w, w', es, ei⟩ := IsIdempotentMonad_both s0
    have hb0 : ((w == w) == false) = false := by cases w <;> rfl
    rw [es, ei]
    simp only [Option.bind_some]
    rw [eqMonad_refl s0]
    simp only [Option.bind_some, bne_self_eq_false, Bool.false_eq_true, if_false, if_true, hb0]

end Go.Gx
