/- Laid together: part 2. -/
import Derived.Test.YtjmjhhhglbeacaaGxEP1
import Derived.Test.YtjmjhhhglbeacaaGxEM1
/- Plain laws: objects of a monoidal category. -/
namespace Go.Gx
open Classical
set_option maxHeartbeats 1000000

theorem l35Objects_eq {m : XMonoidal} {l : List Int} (sm : SmallO m) (sl : Small l) : M.spec_l35Objects m l = some (if IsTen m then (if In m.On.Objects l then 0 else 2) else 1) := by
  unfold M.spec_l35Objects
  rw [l35Is_eq sm, l01Map_eq sl]
  by_cases h : IsTen m
  · by_cases h2 : In m.On.Objects l
    · rw [decide_eq_true h, if_pos h, if_pos h2, decide_eq_true h2]; rfl
    · rw [decide_eq_true h, if_pos h, if_neg h2, decide_eq_false h2]; rfl
  · rw [decide_eq_false h, if_neg h]; rfl
theorem monoidalCode_eq {m : XMonoidal} {l : List Int} (sm : SmallO m) (sl : Small l) : M.impl_monoidalCode m l = some (if IsTen m then (if In m.On.Objects l then 0 else 2) else 1) := by
  unfold M.impl_monoidalCode
  rw [isMonoidal_eq sm]
  by_cases h : IsTen m
  · have n0 := h.t.cat.1.shp.n0
    have n8 := h.t.cat.1.shp.n8
    rw [within_eq sl (by omega) (by omega)]
    by_cases h2 : In m.On.Objects l
    · rw [decide_eq_true h, if_pos h, if_pos h2, decide_eq_true h2]; rfl
    · rw [decide_eq_true h, if_pos h, if_neg h2, decide_eq_false h2]; rfl
  · rw [decide_eq_false h, if_neg h]; rfl
end Go.Gx

/- The law of InternalHom. -/
namespace Go.Gx
open Classical
set_option maxHeartbeats 1000000

theorem InternalHom_both {m : XMonoidal} (sm : SmallO m) (x y : Int) : ∃ w w' w'', M.spec_InternalHom m x y = some (w, w', w'') ∧ M.impl_InternalHom m x y = some (w, w', w'') := by
  unfold M.spec_InternalHom M.impl_InternalHom
  have sl : Small ([x, y] : List Int) := by simp
  rw [l35Objects_eq sm sl, monoidalCode_eq sm sl]
  by_cases h : IsTen m
  · by_cases h2 : In m.On.Objects [x, y]
    · have hx := in_two.1 h2
      rw [if_pos h, if_pos h2]
      simp only [Option.bind_some, bne_self_eq_false, Bool.false_eq_true, if_false]
      rw [l35Behind_eq sm h hx.1.1 hx.1.2, behind_eq sm h hx.1.1 hx.1.2]
      simp only [Option.bind_some]
      rw [fnd_spec (behF_fun h hx.1.1 hx.1.2) y, fnd_impl (behF_fun h hx.1.1 hx.1.2) y]
      simp only [Option.bind_some]
      by_cases hb : (fnd (behF m x) y).2.2 = true
      · rw [if_pos hb]; exact ⟨_, _, _, rfl, rfl⟩
      · rw [if_neg hb]; exact ⟨_, _, _, rfl, rfl⟩
    · rw [if_pos h, if_neg h2]
      exact ⟨_, _, _, rfl, rfl⟩
  · rw [if_neg h]
    exact ⟨_, _, _, rfl, rfl⟩

theorem law_InternalHom {a0 : XMonoidal} {a1 : Int} {a2 : Int} (h0 : R.XMonoidal a0) : M.laws_FnExactInternalHom a0 a1 a2 = some true := by
  unfold M.laws_FnExactInternalHom
  obtain ⟨v0, e0, hv0⟩ := szMonoidal_r (n := 1048576) (by decide) (by decide) (fitsO h0)
  rw [e0, Option.bind_some]
  rcases hv0 with ⟨z0, _⟩ | ⟨l0, u0, s0⟩
  · rw [if_pos (decide_eq_true z0)]
  · rw [if_neg (fun h => absurd (of_decide_eq_true h) (by omega))]
    rw [toMonoidal_eq s0, Option.bind_some]
    obtain ⟨w, w', w'', es, ei⟩ := InternalHom_both s0 a1 a2
    rw [es, ei]
    simp only [Option.bind_some]
    rw [eqMonoidal_refl s0]
    simp only [Option.bind_some, bne_self_eq_false, Bool.false_eq_true, if_false, if_true]

end Go.Gx
