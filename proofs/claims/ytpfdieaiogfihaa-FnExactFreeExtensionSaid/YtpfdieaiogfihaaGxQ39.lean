/- The law of FreeExtension. -/
import Derived.Test.YtpfdieaiogfihaaGxQk
import Derived.Test.YtpfdieaiogfihaaGxw39M
namespace Go.Gx
open Classical
set_option maxHeartbeats 1000000

theorem FreeExtension_both {m : XMonad} (hm : SmallM m) (x y k f : Int) : ∃ w w', M.spec_FreeExtension m x y k f = some (w, w') ∧ M.impl_FreeExtension m x y k f = some (w, w') := by
  unfold M.spec_FreeExtension M.impl_FreeExtension
  rw [l17Pair_eq hm, l17Pair_eq hm, pairCode_eq hm (by simp) (by simp)]
  simp only [in_two]
  by_cases h1 : IsMon m
  case neg =>
    rw [if_neg h1, if_neg h1, if_neg h1]
    exact ⟨_, _, rfl, rfl⟩
  have hc := h1.1.f.1.1.shp
  have lt := hc.lto
  rw [if_pos h1, if_pos h1, if_pos h1]
  by_cases h2 : (0 ≤ x ∧ x < m.On.Source.Objects) ∧ (0 ≤ f ∧ f < (m.On.Source.From.length : Int))
  case neg =>
    rw [if_neg h2, if_neg (show ¬ (((0 ≤ x ∧ x < m.On.Source.Objects) ∧ 0 ≤ y ∧ y < m.On.Source.Objects) ∧ (0 ≤ k ∧ k < (m.On.Source.From.length : Int)) ∧ 0 ≤ f ∧ f < (m.On.Source.From.length : Int)) from fun e => h2 ⟨e.1.1, e.2.2⟩)]
    exact ⟨_, _, rfl, rfl⟩
  by_cases h3 : (0 ≤ y ∧ y < m.On.Source.Objects) ∧ (0 ≤ k ∧ k < (m.On.Source.From.length : Int))
  case neg =>
    rw [if_pos h2, if_neg h3, if_neg (show ¬ (((0 ≤ x ∧ x < m.On.Source.Objects) ∧ 0 ≤ y ∧ y < m.On.Source.Objects) ∧ (0 ≤ k ∧ k < (m.On.Source.From.length : Int)) ∧ 0 ≤ f ∧ f < (m.On.Source.From.length : Int)) from fun e => h3 ⟨e.1.2, e.2.1⟩)]
    exact ⟨_, _, rfl, rfl⟩
  obtain ⟨⟨x0, x1⟩, f0, f1⟩ := h2
  obtain ⟨⟨y0, y1⟩, k0, k1⟩ := h3
  rw [if_pos ⟨⟨x0, x1⟩, f0, f1⟩, if_pos ⟨⟨y0, y1⟩, k0, k1⟩, if_pos ⟨⟨⟨x0, x1⟩, ⟨y0, y1⟩⟩, ⟨k0, k1⟩, ⟨f0, f1⟩⟩, l17Is_eq h1.1 y0 y1 k0 k1, isAlgebra_eq h1.1 y0 y1 k0 k1]
  have i0 := idx_el (l := m.On.Source.From) f0 f1
  have i1 := idx_el (l := m.On.Source.To) f0 (by omega)
  have e0 := ends_eq (c := m.On.Source) f0 f1 (by omega)
  rw [i0, i1, e0]
  by_cases h4 : Alg m y k
  case neg =>
    rw [dF h4]
    exact ⟨_, _, rfl, rfl⟩
  rw [dT h4]
  by_cases h5 : el m.On.Source.From f = x
  case neg =>
    refine ⟨0, 5, ?_, ?_⟩ <;> simp [joinM, h5]
  by_cases h6 : el m.On.Source.To f = y
  case neg =>
    refine ⟨0, 5, ?_, ?_⟩ <;> simp [joinM, h5, h6]
  have hf : Ar m.On.Source f x y := ⟨f0, f1, h5, h6⟩
  have hk : Ar m.On.Source k (el m.On.Objects y) y := ⟨k0, k1, h4.1, h4.2.1⟩
  have i2 := idx_el (l := m.On.Arrows) f0 (h1.1.xa hf)
  have t1 := (h1.1.map hf).th hc hk
  have t2 := (h1.1.map hf).ti hc hk
  have t3 := monArrow_eq (m := m) f0 (h1.1.xa hf)
  refine ⟨cmp m.On.Source (el m.On.Arrows f) k, 0, ?_, ?_⟩ <;> simp [joinM, h5, h6, i2, t1, t2, t3]

theorem law_FreeExtension {a0 : XMonad} {a1 : Int} {a2 : Int} {a3 : Int} {a4 : Int} (h0 : R.XMonad a0) : M.laws_FnExactFreeExtension a0 a1 a2 a3 a4 = some true := by
  unfold M.laws_FnExactFreeExtension
  obtain ⟨v0, e0, hv0⟩ := szMonad_r (n := 1048576) (by decide) (by decide) (fitsM h0)
  rw [e0, Option.bind_some]
  rcases hv0 with ⟨z0, _⟩ | ⟨l0, u0, s0⟩
  · rw [if_pos (decide_eq_true z0)]
  · rw [if_neg (fun h => absurd (of_decide_eq_true h) (by omega))]
    rw [toMonad_eq s0, Option.bind_some]
    obtain ⟨w, w', es, ei⟩ := FreeExtension_both s0 a1 a2 a3 a4
    rw [es, ei]
    simp only [Option.bind_some]
    rw [eqMonad_refl s0]
    simp only [Option.bind_some, bne_self_eq_false, Bool.false_eq_true, if_false, if_true]

end Go.Gx
