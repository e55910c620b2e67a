/- The law of FixFirst. -/
import Derived.Test.YtaijkiepcaobiaaGxQx
import Derived.Test.YtaijkiepcaobiaaGxv31M
namespace Go.Gx
open Classical
set_option maxHeartbeats 1000000

def fix1 (a b : XCategory) (f : XFunctor) (x : Int) : XFunctor :=
  ⟨b, f.Target, tab b.Objects fun y => el f.Objects (x * b.Objects + y), tab (b.From.length : Int) fun v => el f.Arrows (el a.Identity x * (b.From.length : Int) + v)⟩

theorem FixFirst_both {a b : XCategory} {f : XFunctor} (ha : SmallC a) (hb : SmallC b) (hf : SmallF f) (x : Int) : ∃ r w, SmallF r ∧ M.spec_FixFirst a b f x = some (r, w) ∧ M.impl_FixFirst a b f x = some (r, w) := by
  unfold M.spec_FixFirst M.impl_FixFirst
  rw [l02Object_eq, twoVariables_eq ha hb hf]
  simp only [Option.bind_some]
  rw [l08Two_eq ha hb hf]
  by_cases h : AllOk a b f
  case neg =>
    rw [if_neg h, if_neg h]
    exact ⟨zeroF, _, zeroF_small, rfl, rfl⟩
  have sa := h.1.1.shp
  have sb := h.2.1.1.shp
  have a0 := sa.n0
  have a8 := sa.n8
  rw [if_pos h, if_pos h, inR_eq a0 (by omega), fromProduct_eq hf h]
  by_cases hx : 0 ≤ x ∧ x < a.Objects
  case neg =>
    rw [dF hx]
    exact ⟨zeroF, _, zeroF_small, rfl, rfl⟩
  by_cases e : f.Source = prodC a b
  case neg =>
    rw [dT hx, dF e, if_neg e]
    exact ⟨zeroF, _, zeroF_small, rfl, rfl⟩
  rw [dT hx, dT e, if_pos e]
  simp only [Option.bind_some, if_true, bne_self_eq_false, Bool.false_eq_true, if_false]
  obtain ⟨lo, la⟩ := fix_idx h e
  obtain ⟨x0, x1⟩ := hx
  have b0 := sb.n0
  have b8 := sb.n8
  have am := sa.m40
  have bm := sb.m40
  have ai := sa.lid
  have id := sa.id_in x x0 x1
  have s1 : Small (tab b.Objects fun y => el f.Objects (x * b.Objects + y)) := by unfold Small; rw [tab_length]; omega
  have s2 : Small (tab (b.From.length : Int) fun v => el f.Arrows (el a.Identity x * (b.From.length : Int) + v)) := by unfold Small; rw [tab_length]; omega
  have k1 : M.spec_l08Fix a b f x = some (fix1 a b f x) := by
    apply Ret.eq
    unfold M.spec_l08Fix
    refine push_loop (F := fun y => el f.Objects (x * b.Objects + y)) b0 (by omega) ?_ ?_
    · intro i next i0 i1 hl hn
      obtain ⟨w, w0, w1⟩ := code_in x0 x1 i0 i1 (by omega) (by omega)
      dsimp only
      rw [w]
      simp only [decide_eq_true_eq]
      rw [if_pos i1]
      exact Ret.idx w0 (by omega) (Ret.chk (by unfold lim; simp only [List.length_cons, List.length_nil]; omega) hn)
    · intro next
      dsimp only
      simp only [decide_eq_true_eq]
      rw [if_neg (by omega)]
      refine push_loop (n := (b.From.length : Int)) (F := fun v => el f.Arrows (el a.Identity x * (b.From.length : Int) + v)) (by omega) (by omega) ?_ ?_
      · intro i next i0 i1 hl hn
        obtain ⟨w, w0, w1⟩ := code_in id.1 id.2 i0 i1 (by omega) (by omega)
        dsimp only
        rw [if_pos i1]
        refine Ret.idx x0 (by omega) ?_
        rw [w]
        exact Ret.idx w0 (by omega) (Ret.chk (by unfold lim; simp only [List.length_cons, List.length_nil]; omega) hn)
      · intro next
        dsimp only
        rw [if_neg (by omega)]
        exact Ret.call (l06Make_eq hb hf.s2 s1 s2) (Ret.some rfl)
  have k2 : M.impl_fixFirst a b f x = some (fix1 a b f x) := by
    apply Ret.eq
    unfold M.impl_fixFirst M.impl_Category_arrows
    simp only [Option.bind_some]
    refine push_loop (F := fun y => el f.Objects (x * b.Objects + y)) b0 (by omega) ?_ ?_
    · intro i next i0 i1 hl hn
      obtain ⟨w, w0, w1⟩ := code_in x0 x1 i0 i1 (by omega) (by omega)
      dsimp only
      rw [w]
      simp only [decide_eq_true_eq]
      rw [if_pos i1]
      exact Ret.idx w0 (by omega) (Ret.chk (by unfold lim; simp only [List.length_cons, List.length_nil]; omega) hn)
    · intro next
      dsimp only
      simp only [decide_eq_true_eq]
      rw [if_neg (by omega)]
      refine push_loop (n := (b.From.length : Int)) (F := fun v => el f.Arrows (el a.Identity x * (b.From.length : Int) + v)) (by omega) (by omega) ?_ ?_
      · intro i next i0 i1 hl hn
        obtain ⟨w, w0, w1⟩ := code_in id.1 id.2 i0 i1 (by omega) (by omega)
        dsimp only
        rw [if_pos i1]
        refine Ret.idx x0 (by omega) ?_
        rw [w]
        exact Ret.idx w0 (by omega) (Ret.chk (by unfold lim; simp only [List.length_cons, List.length_nil]; omega) hn)
      · intro next
        dsimp only
        rw [if_neg (by omega)]
        exact Ret.call (functor_eq hb hf.s2 s1 s2) (Ret.some rfl)
  rw [k1, k2]
  exact ⟨fix1 a b f x, 0, ⟨hb, hf.s2, s1, s2⟩, rfl, rfl⟩

theorem law_FixFirst {a0 : XCategory} {a1 : XCategory} {a2 : XFunctor} {a3 : Int} (h0 : R.XCategory a0) (h1 : R.XCategory a1) (h2 : R.XFunctor a2) : M.laws_FnExactFixFirst a0 a1 a2 a3 = some true := by
  unfold M.laws_FnExactFixFirst
  obtain ⟨v0, e0, hv0⟩ := szCategory_r (n := 1048576) (by decide) (by decide) (fitsC h0)
  rw [e0]
  simp only [Option.bind_some, decide_eq_true_eq]
  split
  · rfl
  · obtain ⟨l0, u0, s0⟩ : 0 ≤ v0 ∧ v0 ≤ 1048576 ∧ SmallC a0 := by
      rcases hv0 with ⟨z, _⟩ | z
      · exact absurd z ‹_›
      · exact z
    obtain ⟨v1, e1, hv1⟩ := szCategory_r (n := v0) l0 (by omega) (fitsC h1)
    rw [e1]
    simp only [Option.bind_some]
    split
    · rfl
    · obtain ⟨l1, u1, s1⟩ : 0 ≤ v1 ∧ v1 ≤ v0 ∧ SmallC a1 := by
        rcases hv1 with ⟨z, _⟩ | z
        · exact absurd z ‹_›
        · exact z
      obtain ⟨v2, e2, hv2⟩ := szFunctor_r (n := v1) l1 (by omega) (fitsF h2)
      rw [e2]
      simp only [Option.bind_some]
      split
      · rfl
      · obtain ⟨l2, u2, s2⟩ : 0 ≤ v2 ∧ v2 ≤ v1 ∧ SmallF a2 := by
          rcases hv2 with ⟨z, _⟩ | z
          · exact absurd z ‹_›
          · exact z
        rw [toCategory_eq s0, toCategory_eq s1, toFunctor_eq s2]
        simp only [Option.bind_some]
        obtain ⟨g, w, hg, es, ei⟩ := FixFirst_both s0 s1 s2 a3
        rw [es, ei]
        simp only [Option.bind_some]
        rw [eqFunctor_refl hg, eqCategory_refl s0, eqCategory_refl s1, eqFunctor_refl s2]
        obtain ⟨n0, x0, p0, q0, c0, d0, _⟩ := mh_C s0 1 (by omega) (by omega)
        obtain ⟨n1, x1, p1, q1, c1, d1, _⟩ := mh_C s1 (1 + n0) (by omega) (by omega)
        obtain ⟨n2, x2, p2, q2, c2, d2, _⟩ := mh_F s2 (1 + n0 + n1) (by omega) (by omega)
        obtain ⟨n3, x3, p3, q3, c3, d3, _⟩ := mh_F hg 1 (by omega) (by omega)
        simp only [Option.bind_some, bne_self_eq_false, Bool.false_eq_true, if_false, if_true, c0, c1, c2, c3, d3]
        rw [if_neg (by omega), if_neg (by omega)]

end Go.Gx
