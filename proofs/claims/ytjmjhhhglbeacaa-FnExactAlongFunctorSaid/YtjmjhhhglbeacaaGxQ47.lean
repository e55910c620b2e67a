/- The law of AlongFunctor. -/
import Derived.Test.YtjmjhhhglbeacaaGxPs
import Derived.Test.YtjmjhhhglbeacaaGxPh
import Derived.Test.YtjmjhhhglbeacaaGxQp
import Derived.Test.YtjmjhhhglbeacaaGxy47M
namespace Go.Gx
open Classical
set_option maxHeartbeats 1000000

def zeroG : XSetFunctor := ⟨⟨0, [], [], [], []⟩, [], []⟩
theorem zeroG_small : SmallG zeroG := ⟨zeroC_small, by simp [zeroG], by simp [zeroG], by simp [zeroG]⟩
def alongG (k : XFunctor) (g : XSetFunctor) : XSetFunctor := ⟨k.Source, thenL k.Objects g.Sizes, tab (k.Arrows.length : Int) fun a => el g.Actions (el k.Arrows a)⟩

theorem l23Along_eq {k : XFunctor} {g : XSetFunctor} (hk : SmallF k) (hg : SmallG g) (io : In (g.Sizes.length : Int) k.Objects) (ia : In (g.Actions.length : Int) k.Arrows) : M.spec_l23Along k g = some (alongG k g) := by
  apply Ret.eq
  have s3 := hk.s3
  have s4 := hk.s4
  unfold M.spec_l23Along
  refine Ret.call (l02Own_eq hk.s1) (push_loop (n := (k.Objects.length : Int)) (F := fun i => el g.Sizes (el k.Objects i)) (by omega) (by omega) ?_ ?_)
  · intro i next i0 i1 hl hn
    have := io i i0 i1
    dsimp only
    rw [if_pos (decide_eq_true i1)]
    refine Ret.idx i0 i1 (Ret.idx this.1 this.2 (Ret.chk ?_ hn))
    unfold lim; simp only [List.length_cons, List.length_nil]; omega
  · intro next
    dsimp only
    rw [if_neg (by simp)]
    refine push_loop (n := (k.Arrows.length : Int)) (F := fun i => el g.Actions (el k.Arrows i)) (by omega) (by omega) ?_ ?_
    · intro i next i0 i1 hl hn
      have := ia i i0 i1
      dsimp only
      rw [if_pos (decide_eq_true i1)]
      refine Ret.idx i0 i1 (Ret.idx this.1 this.2 (Ret.call (own_eq (hg.s4 _ (el_mem this.1 this.2))) (Ret.chk ?_ hn)))
      unfold lim; omega
    · intro next
      dsimp only
      rw [if_neg (by simp)]
      exact Ret.some rfl

theorem along_eq {k : XFunctor} {g : XSetFunctor} (hk : SmallF k) (hg : SmallG g) (io : In (g.Sizes.length : Int) k.Objects) (ia : In (g.Actions.length : Int) k.Arrows) : M.impl_along k g = some (alongG k g) := by
  apply Ret.eq
  have s4 := hk.s4
  unfold M.impl_along
  refine Ret.call (copy_eq hk.s1) (Ret.call (then2_eq hk.s3 io) ?_)
  refine push_loop (n := (k.Arrows.length : Int)) (F := fun i => el g.Actions (el k.Arrows i)) (by omega) (by omega) ?_ ?_
  · intro i next i0 i1 hl hn
    have := ia i i0 i1
    dsimp only
    rw [if_pos (decide_eq_true i1)]
    refine Ret.idx i0 i1 (Ret.idx this.1 this.2 (Ret.call (clone_eq (hg.s4 _ (el_mem this.1 this.2))) (Ret.chk ?_ hn)))
    unfold lim; omega
  · intro next
    dsimp only
    rw [if_neg (by simp)]
    exact Ret.some rfl

theorem alongG_small {k : XFunctor} {g : XSetFunctor} (hk : SmallF k) (hg : SmallG g) (ia : In (g.Actions.length : Int) k.Arrows) : SmallG (alongG k g) := by
  have s4 := hk.s4
  refine ⟨hk.s1, thenL_small hk.s3, ?_, ?_⟩
  · show ((tab (k.Arrows.length : Int) fun a => el g.Actions (el k.Arrows a)).length : Int) ≤ _
    rw [tab_length]; omega
  · intro r hr
    obtain ⟨i, i0, i1, rfl⟩ := mem_el (show r ∈ tab (k.Arrows.length : Int) fun a => el g.Actions (el k.Arrows a) from hr)
    rw [tab_length] at i1
    rw [el_tab i0 (by omega)]
    have := ia i i0 (by omega)
    exact hg.s4 _ (el_mem this.1 this.2)

theorem l23Code_eq {k : XFunctor} {g : XSetFunctor} {c : XCategory} (hk : SmallF k) (hg : SmallG g) (hc : SmallC c) :
    M.spec_l23Code k g c = some (if IsFun k ∧ IsSet g then (if g.Shape = c then 0 else 5) else 1) := by
  unfold M.spec_l23Code
  rw [l06Is_eq hk, l19Is_eq hg, l02Same_eq hg.s1 hc]
  by_cases h : IsFun k
  · by_cases h2 : IsSet g
    · by_cases h3 : g.Shape = c <;> simp [h, h2, h3]
    · simp [h, h2]
  · simp [h]

theorem alongCode_eq {k : XFunctor} {g : XSetFunctor} (hk : SmallF k) (hg : SmallG g) :
    M.impl_alongCode k g = some (if IsFun k ∧ IsSet g then (if g.Shape = k.Target then 0 else 5) else 1) := by
  unfold M.impl_alongCode
  rw [isFunctor_eq hk, isSetFunctor_eq hg, sameCategory_eq hk.s2 hg.s1]
  by_cases h : IsFun k
  · by_cases h2 : IsSet g
    · by_cases h3 : g.Shape = k.Target
      · simp [h, h2, h3]
      · have h4 : ¬ k.Target = g.Shape := fun e => h3 e.symm
        simp [h, h2, h3, h4]
    · simp [h, h2]
  · simp [h]

theorem AlongFunctor_both {k : XFunctor} {g : XSetFunctor} (hk : SmallF k) (hg : SmallG g) : ∃ r w, SmallG r ∧ M.spec_AlongFunctor k g = some (r, w) ∧ M.impl_AlongFunctor k g = some (r, w) := by
  unfold M.spec_AlongFunctor M.impl_AlongFunctor
  rw [l23Code_eq hk hg hk.s2, alongCode_eq hk hg]
  by_cases h : IsFun k ∧ IsSet g
  · by_cases h3 : g.Shape = k.Target
    · rw [if_pos h, if_pos h3]
      obtain ⟨⟨_, _, hF⟩, hG, _⟩ := h
      have io : In (g.Sizes.length : Int) k.Objects := by rw [hG.ls, h3]; exact hF.ino
      have ia : In (g.Actions.length : Int) k.Arrows := by rw [hG.la, h3]; exact hF.ina
      simp only [Option.bind_some, bne_self_eq_false, Bool.false_eq_true, if_false]
      rw [l23Along_eq hk hg io ia, along_eq hk hg io ia]
      exact ⟨_, _, alongG_small hk hg ia, rfl, rfl⟩
    · rw [if_pos h, if_neg h3]
      exact ⟨zeroG, _, zeroG_small, rfl, rfl⟩
  · rw [if_neg h]
    exact ⟨zeroG, _, zeroG_small, rfl, rfl⟩

theorem law_AlongFunctor {a0 : XFunctor} {a1 : XSetFunctor} (h0 : R.XFunctor a0) (h1 : R.XSetFunctor a1) : M.laws_FnExactAlongFunctor a0 a1 = some true := by
  unfold M.laws_FnExactAlongFunctor
  obtain ⟨v0, e0, hv0⟩ := szFunctor_r (n := 1048576) (by decide) (by decide) (fitsF h0)
  rw [e0, Option.bind_some]
  rcases hv0 with ⟨z0, _⟩ | ⟨l0, u0, s0⟩
  · rw [if_pos (decide_eq_true z0)]
  · rw [if_neg (fun h => absurd (of_decide_eq_true h) (by omega))]
    obtain ⟨v1, e1, hv1⟩ := szSetFunctor_r (n := v0) l0 (by omega) (fitsG h1)
    rw [e1, Option.bind_some]
    rcases hv1 with ⟨z1, _⟩ | ⟨l1, u1, s1⟩
    · rw [if_pos (decide_eq_true z1)]
    · rw [if_neg (fun h => absurd (of_decide_eq_true h) (by omega))]
      rw [toFunctor_eq s0, Option.bind_some, toSetFunctor_eq s1, Option.bind_some]
      obtain ⟨g0, w, hg0, es, ei⟩ := AlongFunctor_both s0 s1
      rw [es, ei]
      simp only [Option.bind_some]
      rw [eqSetFunctor_refl hg0, eqFunctor_refl s0, eqSetFunctor_refl s1]
      obtain ⟨n0, x0, p0, q0, c0, d0, _⟩ := mh_F s0 1 (by omega) (by omega)
      obtain ⟨n1, x1, p1, q1, c1, d1, _⟩ := mh_G s1 (1 + n0) (by omega) (by omega)
      obtain ⟨n2, x2, p2, q2, c2, d2, _⟩ := mh_G hg0 1 (by omega) (by omega)
      simp only [Option.bind_some, bne_self_eq_false, Bool.false_eq_true, if_false, if_true, decide_eq_true_eq, c0, c1, c2, d2]
      rw [if_neg (by omega), if_neg (by omega)]

end Go.Gx
