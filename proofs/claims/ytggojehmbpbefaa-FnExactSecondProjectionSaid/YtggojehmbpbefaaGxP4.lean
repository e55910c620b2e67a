/- The law of SecondProjection. -/
import Derived.Test.YtggojehmbpbefaaGxPq
import Derived.Test.YtggojehmbpbefaaGxL4M
namespace Go.Gx
open Classical
set_option maxHeartbeats 1000000

theorem law_SecondProjection {a b : XCategory} (h : R.XCategory a) (h' : R.XCategory b) : M.laws_FnExactSecondProjection a b = some true := by
  unfold M.laws_FnExactSecondProjection
  obtain ⟨v, e, hv⟩ := szCategory_r (n := 1048576) (by decide) (by decide) (fitsC h)
  rw [e]
  simp only [Option.bind_some, decide_eq_true_eq]
  split
  · rfl
  · obtain ⟨hv0, hv1, sa⟩ : 0 ≤ v ∧ v ≤ 1048576 ∧ SmallC a := by
      rcases hv with ⟨h1, _⟩ | h3
      · exact absurd h1 ‹_›
      · exact h3
    obtain ⟨v', e', hv'⟩ := szCategory_r (n := v) hv0 hv1 (fitsC h')
    rw [e']
    simp only [Option.bind_some]
    split
    · rfl
    · have sb : SmallC b := by
        rcases hv' with ⟨h1, _⟩ | h3
        · exact absurd h1 ‹_›
        · exact h3.2.2
      rw [toCategory_eq sa, toCategory_eq sb]
      simp only [Option.bind_some]
      have e1 : M.spec_SecondProjection a b = some (if IsCat a ∧ IsCat b then (if PFits a b then (proj true a b, 0) else (zeroF, 3)) else (zeroF, 1)) := by
        unfold M.spec_SecondProjection
        rw [l06Project_eq sa sb true]; rfl
      have e2 : M.impl_SecondProjection a b = some (if IsCat a ∧ IsCat b then (if PFits a b then (proj true a b, 0) else (zeroF, 3)) else (zeroF, 1)) := by
        unfold M.impl_SecondProjection
        have := projection_eq sa sb true (g := fun x0 x1 => M.impl_SecondProjection_1 x0 x1) (fun x m x0 _ m0 => by
          unfold M.impl_SecondProjection_1 chk
          rw [if_pos (by omega), tmod_nn x0]; rfl)
        simp only [if_true] at this
        rw [this]; rfl
      have hg := projs_small sa sb true
      rw [e1, e2]
      simp only [Option.bind_some]
      generalize (if IsCat a ∧ IsCat b then (if PFits a b then (proj true a b, (0 : Int)) else (zeroF, 3)) else (zeroF, 1)) = g at hg
      obtain ⟨g, w⟩ := g
      dsimp only at hg ⊢
      rw [eqFunctor_refl hg, eqCategory_refl sa, eqCategory_refl sb]
      obtain ⟨n1, x1, a1, b1, c1, f1, _⟩ := mh_C sa 1 (by omega) (by omega)
      obtain ⟨n2, x2, a2, b2, c2, f2, _⟩ := mh_C sb (1 + n1) (by omega) (by omega)
      obtain ⟨n3, x3, a3, b3, c3, f3, _⟩ := mh_F hg 1 (by omega) (by omega)
      simp only [Option.bind_some, bne_self_eq_false, Bool.false_eq_true, if_false, if_true, c1, c2, c3, f3]
      rw [if_neg (by omega), if_neg (by omega)]
end Go.Gx
