/- The law of FixSecond. -/
import Derived.Test.YtaijkiepcaobiaaGxQx
import Derived.Test.YtaijkiepcaobiaaGxv26M
namespace Go.Gx
open Classical
set_option maxHeartbeats 1000000

def fix2 (a b : XCategory) (f : XFunctor) (y : Int) : XFunctor :=
  ⟨a, f.Target, tab a.Objects fun x => el f.Objects (x * b.Objects + y), tab (a.From.length : Int) fun u => el f.Arrows (u * (b.From.length : Int) + el b.Identity y)⟩

theorem fix2_small {a b : XCategory} {f : XFunctor} {y : Int} (sa : Shp a) : Small (tab a.Objects fun x => el f.Objects (x * b.Objects + y)) ∧ Small (tab (a.From.length : Int) fun u => el f.Arrows (u * (b.From.length : Int) + el b.Identity y)) := by
  have a0 := sa.n0
  have a8 := sa.n8
  have am := sa.m40
  constructor <;> unfold Small <;> rw [tab_length] <;> omega

theorem fix2_spec {a b : XCategory} {f : XFunctor} {y : Int} (ha : SmallC a) (hb : SmallC b) (hf : SmallF f) (h : AllOk a b f) (e : f.Source = prodC a b) (y0 : 0 ≤ y) (y1 : y < b.Objects) : M.spec_FixSecond a b f y = some (fix2 a b f y, 0) := by
  unfold M.spec_FixSecond
  rw [l02Object_eq, decide_eq_true (show 0 ≤ y ∧ y < b.Objects from ⟨y0, y1⟩)]
  simp only [Option.bind_some]
  rw [l08Two_eq ha hb hf, if_pos h, if_pos e]
  have sa := h.1.1.shp
  have sb := h.2.1.1.shp
  have b0 := sb.n0
  have b8 := sb.n8
  obtain ⟨lo, la⟩ := fix_idx h e
  have a0 := sa.n0
  have a8 := sa.n8
  have am := sa.m40
  have bm := sb.m40
  have bi := sb.lid
  have id := sb.id_in y y0 y1
  obtain ⟨s1, s2⟩ := fix2_small (b := b) (f := f) (y := y) sa
  simp only [Option.bind_some, if_true, bne_self_eq_false, Bool.false_eq_true, if_false]
  apply Ret.eq
  refine push_loop (n := a.Objects) (F := fun x => el f.Objects (x * b.Objects + y)) a0 (by omega) ?_ ?_
  · intro i next i0 i1 hl hn
    obtain ⟨w, w0, w1⟩ := code_in i0 i1 y0 y1 (by omega) (by omega)
    dsimp only
    rw [w, if_pos (decide_eq_true i1)]
    exact Ret.idx w0 (by omega) (Ret.chk (by unfold lim; simp only [List.length_cons, List.length_nil]; omega) hn)
  · intro next
    dsimp only
    rw [if_neg (by simp)]
    refine push_loop (n := (a.From.length : Int)) (F := fun u => el f.Arrows (u * (b.From.length : Int) + el b.Identity y)) (by omega) (by omega) ?_ ?_
    · intro i next i0 i1 hl hn
      obtain ⟨w, w0, w1⟩ := code_in i0 i1 id.1 id.2 (by omega) (by omega)
      dsimp only
      rw [if_pos (decide_eq_true i1)]
      refine Ret.idx y0 (by omega) ?_
      rw [w]
      exact Ret.idx w0 (by omega) (Ret.chk (by unfold lim; simp only [List.length_cons, List.length_nil]; omega) hn)
    · intro next
      dsimp only
      rw [if_neg (by simp)]
      exact Ret.call (l06Make_eq ha hf.s2 s1 s2) (Ret.some rfl)

theorem fix2_impl {a b : XCategory} {f : XFunctor} {y : Int} (ha : SmallC a) (hb : SmallC b) (hf : SmallF f) (h : AllOk a b f) (e : f.Source = prodC a b) (y0 : 0 ≤ y) (y1 : y < b.Objects) : M.impl_FixSecond a b f y = some (fix2 a b f y, 0) := by
  unfold M.impl_FixSecond M.impl_Category_arrows
  rw [twoVariables_eq ha hb hf, if_pos h]
  have sa := h.1.1.shp
  have sb := h.2.1.1.shp
  have b0 := sb.n0
  have b8 := sb.n8
  obtain ⟨lo, la⟩ := fix_idx h e
  have a0 := sa.n0
  have a8 := sa.n8
  have am := sa.m40
  have bm := sb.m40
  have bi := sb.lid
  have id := sb.id_in y y0 y1
  obtain ⟨s1, s2⟩ := fix2_small (b := b) (f := f) (y := y) sa
  simp only [Option.bind_some, bne_self_eq_false, Bool.false_eq_true, if_false]
  rw [inR_eq b0 (by omega), fromProduct_eq hf h, dT e, decide_eq_true (show 0 ≤ y ∧ y < b.Objects from ⟨y0, y1⟩)]
  simp only [Option.bind_some, if_true]
  apply Ret.eq
  refine push_loop (n := a.Objects) (F := fun x => el f.Objects (x * b.Objects + y)) a0 (by omega) ?_ ?_
  · intro i next i0 i1 hl hn
    obtain ⟨w, w0, w1⟩ := code_in i0 i1 y0 y1 (by omega) (by omega)
    dsimp only
    rw [w, if_pos (decide_eq_true i1)]
    exact Ret.idx w0 (by omega) (Ret.chk (by unfold lim; simp only [List.length_cons, List.length_nil]; omega) hn)
  · intro next
    dsimp only
    rw [if_neg (by simp)]
    refine push_loop (n := (a.From.length : Int)) (F := fun u => el f.Arrows (u * (b.From.length : Int) + el b.Identity y)) (by omega) (by omega) ?_ ?_
    · intro i next i0 i1 hl hn
      obtain ⟨w, w0, w1⟩ := code_in i0 i1 id.1 id.2 (by omega) (by omega)
      dsimp only
      rw [if_pos (decide_eq_true i1)]
      refine Ret.idx y0 (by omega) ?_
      rw [w]
      exact Ret.idx w0 (by omega) (Ret.chk (by unfold lim; simp only [List.length_cons, List.length_nil]; omega) hn)
    · intro next
      dsimp only
      rw [if_neg (by simp)]
      exact Ret.call (functor_eq ha hf.s2 s1 s2) (Ret.some rfl)

theorem FixSecond_both {a b : XCategory} {f : XFunctor} (ha : SmallC a) (hb : SmallC b) (hf : SmallF f) (y : Int) : ∃ r w, SmallF r ∧ M.spec_FixSecond a b f y = some (r, w) ∧ M.impl_FixSecond a b f y = some (r, w) := by
  by_cases h : AllOk a b f
  case neg =>
    unfold M.spec_FixSecond M.impl_FixSecond
    rw [l02Object_eq, twoVariables_eq ha hb hf]
    simp only [Option.bind_some]
    rw [l08Two_eq ha hb hf, if_neg h, if_neg h]
    exact ⟨zeroF, _, zeroF_small, rfl, rfl⟩
  by_cases hy : 0 ≤ y ∧ y < b.Objects
  case neg =>
    have b0 := h.2.1.1.shp.n0
    have b8 := h.2.1.1.shp.n8
    unfold M.spec_FixSecond M.impl_FixSecond
    rw [l02Object_eq, twoVariables_eq ha hb hf]
    simp only [Option.bind_some]
    rw [l08Two_eq ha hb hf, if_pos h, if_pos h, inR_eq b0 (by omega), dF hy]
    exact ⟨zeroF, _, zeroF_small, rfl, rfl⟩
  by_cases e : f.Source = prodC a b
  case neg =>
    have b0 := h.2.1.1.shp.n0
    have b8 := h.2.1.1.shp.n8
    unfold M.spec_FixSecond M.impl_FixSecond
    rw [l02Object_eq, twoVariables_eq ha hb hf]
    simp only [Option.bind_some]
    rw [l08Two_eq ha hb hf, if_pos h, if_pos h, inR_eq b0 (by omega), fromProduct_eq hf h, dT hy, dF e, if_neg e]
    exact ⟨zeroF, _, zeroF_small, rfl, rfl⟩
  obtain ⟨s1, s2⟩ := fix2_small (b := b) (f := f) (y := y) h.1.1.shp
  exact ⟨fix2 a b f y, 0, ⟨ha, hf.s2, s1, s2⟩, fix2_spec ha hb hf h e hy.1 hy.2, fix2_impl ha hb hf h e hy.1 hy.2⟩

theorem law_FixSecond {a0 : XCategory} {a1 : XCategory} {a2 : XFunctor} {a3 : Int} (h0 : R.XCategory a0) (h1 : R.XCategory a1) (h2 : R.XFunctor a2) : M.laws_FnExactFixSecond a0 a1 a2 a3 = some true := by
  unfold M.laws_FnExactFixSecond
  obtain ⟨v0, e0, hv0⟩ := szCategory_r (n := 1048576) (by decide) (by decide) (fitsC h0)
  rw [e0]
  simp only [Option.bind_some, decide_eq_true_eq]
  split
  · rfl
  · obtain ⟨l0, u0, s0⟩ : 0 ≤ v0 ∧ v0 ≤ 1048576 ∧ SmallC a0 := by
      rcases hv0 with ⟨z, _⟩ | z
      · exact absurd z ‹_›
      · exact z
    obtain ⟨v1, e1, hv1⟩ := szCategory_r (n := v0) l0 (by omega) (fitsC h1)
    rw [e1]
    simp only [Option.bind_some]
    split
    · rfl
    · obtain ⟨l1, u1, s1⟩ : 0 ≤ v1 ∧ v1 ≤ v0 ∧ SmallC a1 := by
        rcases hv1 with ⟨z, _⟩ | z
        · exact absurd z ‹_›
        · exact z
      obtain ⟨v2, e2, hv2⟩ := szFunctor_r (n := v1) l1 (by omega) (fitsF h2)
      rw [e2]
      simp only [Option.bind_some]
      split
      · rfl
      · obtain ⟨l2, u2, s2⟩ : 0 ≤ v2 ∧ v2 ≤ v1 ∧ SmallF a2 := by
          rcases hv2 with ⟨z, _⟩ | z
          · exact absurd z ‹_›
          · exact z
        rw [toCategory_eq s0, toCategory_eq s1, toFunctor_eq s2]
        simp only [Option.bind_some]
        obtain ⟨g, w, hg, es, ei⟩ := FixSecond_both s0 s1 s2 a3
        rw [es, ei]
        simp only [Option.bind_some]
        rw [eqFunctor_refl hg, eqCategory_refl s0, eqCategory_refl s1, eqFunctor_refl s2]
        obtain ⟨n0, x0, p0, q0, c0, d0, _⟩ := mh_C s0 1 (by omega) (by omega)
        obtain ⟨n1, x1, p1, q1, c1, d1, _⟩ := mh_C s1 (1 + n0) (by omega) (by omega)
        obtain ⟨n2, x2, p2, q2, c2, d2, _⟩ := mh_F s2 (1 + n0 + n1) (by omega) (by omega)
        obtain ⟨n3, x3, p3, q3, c3, d3, _⟩ := mh_F hg 1 (by omega) (by omega)
        simp only [Option.bind_some, bne_self_eq_false, Bool.false_eq_true, if_false, if_true, c0, c1, c2, c3, d3]
        rw [if_neg (by omega), if_neg (by omega)]

end Go.Gx
