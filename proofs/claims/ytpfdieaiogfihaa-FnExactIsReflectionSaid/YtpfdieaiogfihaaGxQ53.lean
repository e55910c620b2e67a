/- The law of IsReflection. -/
import Derived.Test.YtpfdieaiogfihaaGxQa
import Derived.Test.YtpfdieaiogfihaaGxQe
import Derived.Test.YtpfdieaiogfihaaGxw53M
namespace Go.Gx
open Classical
set_option maxHeartbeats 1000000

theorem IsReflection_both {a : XAdjunction} (sa : SmallA a) : ∃ w w', M.spec_IsReflection a = some (w, w') ∧ M.impl_IsReflection a = some (w, w') := by
  unfold M.spec_IsReflection M.impl_IsReflection
  rw [l15Is_eq sa, isAdjunction_eq sa]
  by_cases h : IsAdj a
  case neg =>
    rw [dF h]
    exact ⟨_, _, rfl, rfl⟩
  have hd := h.1.f.2.1.1.shp
  have n8 := hd.n8
  have u := h.1.k.1.2.2.2
  have lk : (a.Counit.length : Int) = a.Right.Source.Objects := u.1
  have ik : In (a.Left.Target.From.length : Int) a.Counit := u.2.1
  rw [← h.1.e1] at lk
  rw [dT h]
  simp only [Option.bind_some, if_true]
  rw [l15Isos_eq hd (by omega) ik, isos_eq hd (by omega) ik]
  exact ⟨_, _, rfl, rfl⟩

theorem law_IsReflection {a0 : XAdjunction} (h0 : R.XAdjunction a0) : M.laws_FnExactIsReflection a0 = some true := by
  unfold M.laws_FnExactIsReflection
  obtain ⟨v0, e0, hv0⟩ := szAdjunction_r (n := 1048576) (by decide) (by decide) (fitsA h0)
  rw [e0, Option.bind_some]
  rcases hv0 with ⟨z0, _⟩ | ⟨l0, u0, s0⟩
  · rw [if_pos (decide_eq_true z0)]
  · rw [if_neg (fun h => absurd (of_decide_eq_true h) (by omega))]
    rw [toAdjunction_eq s0, Option.bind_some]
    obtain ⟨w, w', es, ei⟩ := IsReflection_both s0
    have hb0 : ((w == w) == false) = false := by cases w <;> rfl
    rw [es, ei]
    simp only [Option.bind_some]
    rw [eqAdjunction_refl s0]
    simp only [Option.bind_some, bne_self_eq_false, Bool.false_eq_true, if_false, if_true, hb0]

end Go.Gx
