/- The law of IdentitySetMap. -/
import Derived.Test.YtggojehmbpbefaaGxPs
namespace Go.Gx
open Classical
set_option maxHeartbeats 1000000

theorem numbers_eq {n : Int} (h0 : 0 ≤ n) (h1 : n ≤ 1048576) : M.impl_numbers n = some (tab n fun j => j) := by
  apply Ret.eq
  unfold M.impl_numbers
  refine Ret.chk ⟨h0, by unfold lim; omega⟩ ?_
  have e1 : ((n.toNat : Nat) : Int) = n := by omega
  simp only [List.length_replicate, e1, decide_eq_true_eq]
  refine Ret.acc n (fun i s => s = tab n fun j => if j < i then j else 0) h0 (by omega) ?_ ?_ ?_
  · rw [rep_tab]; apply tab_congr; intro j j0 j1; rw [if_neg (by omega)]
  · rintro i s next hi0 hi1 rfl hn1
    dsimp only
    rw [if_pos hi1]
    refine Ret.idx hi0 (by rw [tab_length]; omega) (hn1 _ ?_)
    rw [set_tab hi0]
    apply tab_congr; intro j j0 j1
    by_cases hj : j = i
    · subst hj; rw [if_pos rfl, if_pos (show j < j + 1 by omega)]
    · rw [if_neg hj]
      by_cases hlt : j < i
      · rw [if_pos hlt, if_pos (show j < i + 1 by omega)]
      · rw [if_neg hlt, if_neg (show ¬ j < i + 1 by omega)]
  · rintro s next rfl
    dsimp only
    rw [if_neg (by omega)]
    refine Ret.some ?_
    apply tab_congr; intro j j0 j1; rw [if_pos j1]


structure SmallM (t : XSetMap) : Prop where
  s1 : SmallG t.Source
  s2 : SmallG t.Target
  s3 : Small t.Parts
  s4 : ∀ r ∈ t.Parts, Small r

theorem l19Make_eq {F G : XSetFunctor} {p : List (List Int)} (hF : SmallG F) (hG : SmallG G) (hp : Small p) (hr : ∀ r ∈ p, Small r) : M.spec_l19Make F G p = some ⟨F, G, p⟩ := by
  unfold M.spec_l19Make
  rw [l19Own_eq hF, l19Own_eq hG, own2_eq hp hr]; rfl
theorem setMap_eq {F G : XSetFunctor} {p : List (List Int)} (hF : SmallG F) (hG : SmallG G) (hp : Small p) (hr : ∀ r ∈ p, Small r) : M.impl_setMap F G p = some ⟨F, G, p⟩ := by
  unfold M.impl_setMap
  rw [Gcopy_eq hF, Gcopy_eq hG, clones_eq hp hr]; rfl
theorem eqSetMap_refl {t : XSetMap} (h : SmallM t) : M.laws_eqSetMap t t = some true := by
  unfold M.laws_eqSetMap
  rw [eqSetFunctor_refl h.s1, eqSetFunctor_refl h.s2, eqInt64SS_refl h.s3 h.s4]; simp

theorem mh_M {t : XSetMap} (h : SmallM t) : MH 6597068624640 M.laws_markSetMap M.laws_heldSetMap (fun _ _ => True) t := by
  intro k h0 h1
  obtain ⟨n1, l1, a1, b1, e1, f1, g1⟩ := mh_G h.s1 k h0 (by omega)
  obtain ⟨n2, l2, a2, b2, e2, f2, g2⟩ := mh_G h.s2 (k + n1) (by omega) (by omega)
  obtain ⟨n3, l3, a3, b3, e3, f3, _⟩ := mh_SS h.s3 h.s4 (k + n1 + n2) (by omega) (by omega)
  refine ⟨n1 + n2 + n3, ⟨l1, l2, l3⟩, by omega, by omega, ?_, ?_, trivial⟩
  · unfold M.laws_markSetMap
    simp only [e1, e2, e3, Option.bind_some, Option.some.injEq, Prod.mk.injEq]
    refine ⟨by omega, ?_⟩
    rw [← g1, ← g2]
  · unfold M.laws_heldSetMap
    simp only [f1, f2, f3, Option.bind_some, decide_eq_true_eq]
    rw [if_neg (by omega), if_neg (by omega), if_neg (by omega)]
    simp only [Option.some.injEq]; omega

def idParts (F : XSetFunctor) : List (List Int) := tab (F.Sizes.length : Int) fun i => tab (el F.Sizes i) fun j => j

theorem idParts_small {F : XSetFunctor} (h : ShpG F) : Small (idParts F) ∧ ∀ r ∈ idParts F, Small r := by
  have hS := h.cat.1.shp
  have n8 := hS.n8
  have ls := h.ls
  have l1 : ((idParts F).length : Int) = (F.Sizes.length : Int) := by unfold idParts; rw [tab_length]; omega
  refine ⟨by unfold Small; omega, fun r hr => ?_⟩
  obtain ⟨i, i0, i1, rfl⟩ := mem_el hr
  rw [l1] at i1
  have e : el (idParts F) i = tab (el F.Sizes i) fun j => j := el_tab (f := fun i => tab (el F.Sizes i) fun j => j) i0 i1
  rw [e]
  have := h.siz i i0 i1
  unfold Small
  rw [tab_length]; omega

theorem l19Self_eq {F : XSetFunctor} (h : ShpG F) : M.spec_l19Self F = some (idParts F) := by
  apply Ret.eq
  unfold M.spec_l19Self
  have hS := h.cat.1.shp
  have n8 := hS.n8
  have ls := h.ls
  refine Ret.acc (F.Sizes.length : Int) (fun i a => a = tab i fun i => tab (el F.Sizes i) fun j => j) (by omega) (by omega) rfl ?_ ?_
  · rintro i a next i0 i1 rfl hn1
    dsimp only
    simp only [decide_eq_true_eq]
    rw [if_pos i1]
    have z := h.siz i i0 i1
    refine Ret.acc (el F.Sizes i) (fun j a => a = tab j fun j => j) z.1 (by omega) rfl ?_ ?_
    · rintro j a next j0 j1 rfl hn2
      dsimp only
      refine Ret.idx i0 i1 ?_
      rw [if_pos j1]
      refine Ret.chk ?_ (hn2 _ (tab_succ (fun j => j) j0).symm)
      rw [tab_length]; unfold lim; simp only [List.length_cons, List.length_nil]; omega
    · rintro a next rfl
      dsimp only
      refine Ret.idx i0 i1 ?_
      rw [if_neg (by omega)]
      refine Ret.chk ?_ (hn1 _ (tab_succ (fun i => tab (el F.Sizes i) fun j => j) i0).symm)
      rw [tab_length]; unfold lim; omega
  · rintro a next rfl
    dsimp only
    simp only [decide_eq_true_eq]
    rw [if_neg (by omega)]
    exact Ret.some rfl

def zeroM : XSetMap := ⟨⟨⟨0, [], [], [], []⟩, [], []⟩, ⟨⟨0, [], [], [], []⟩, [], []⟩, []⟩
theorem zeroM_small : SmallM zeroM := ⟨⟨zeroC_small, by simp [zeroM], by simp [zeroM], by simp [zeroM]⟩, ⟨zeroC_small, by simp [zeroM], by simp [zeroM], by simp [zeroM]⟩, by simp [zeroM], by simp [zeroM]⟩

theorem spec_ISM_eq {F : XSetFunctor} (hs : SmallG F) : M.spec_IdentitySetMap F = some (if IsSet F then (⟨F, F, idParts F⟩, 0) else (zeroM, 1)) := by
  unfold M.spec_IdentitySetMap
  rw [l19Is_eq hs]
  by_cases h : IsSet F
  · simp only [Option.bind_some, h, decide_true, if_true]
    rw [l19Self_eq h.1]
    simp only [Option.bind_some]
    rw [l19Make_eq hs hs (idParts_small h.1).1 (idParts_small h.1).2]; rfl
  · simp [h, zeroM]

theorem impl_ISM_eq {F : XSetFunctor} (hs : SmallG F) : M.impl_IdentitySetMap F = some (if IsSet F then (⟨F, F, idParts F⟩, 0) else (zeroM, 1)) := by
  unfold M.impl_IdentitySetMap
  rw [isSetFunctor_eq hs]
  by_cases h : IsSet F
  · simp only [Option.bind_some, h, decide_true, if_true]
    apply Ret.eq
    have hS := h.1.cat.1.shp
    have n8 := hS.n8
    have ls := h.1.ls
    refine Ret.acc (F.Sizes.length : Int) (fun i a => a = tab i fun i => tab (el F.Sizes i) fun j => j) (by omega) (by omega) rfl ?_ ?_
    · rintro i a next i0 i1 rfl hn1
      dsimp only
      simp only [decide_eq_true_eq]
      rw [if_pos i1]
      have z := h.1.siz i i0 i1
      refine Ret.idx i0 i1 (Ret.call (numbers_eq z.1 (by omega)) (Ret.chk ?_ (hn1 _ (tab_succ (fun i => tab (el F.Sizes i) fun j => j) i0).symm)))
      rw [tab_length]; unfold lim; omega
    · rintro a next rfl
      dsimp only
      simp only [decide_eq_true_eq]
      rw [if_neg (by omega)]
      refine Ret.call (v := ⟨F, F, idParts F⟩) (setMap_eq hs hs (idParts_small h.1).1 (idParts_small h.1).2) (Ret.some rfl)
  · simp [h, zeroM]

theorem law_IdentitySetMap {F : XSetFunctor} (h : R.XSetFunctor F) : M.laws_FnExactIdentitySetMap F = some true := by
  unfold M.laws_FnExactIdentitySetMap
  obtain ⟨v, e, hv⟩ := szSetFunctor_r (n := 1048576) (by decide) (by decide) (fitsG h)
  rw [e]
  simp only [Option.bind_some, decide_eq_true_eq]
  split
  · rfl
  · have hs : SmallG F := by
      rcases hv with ⟨h1, _⟩ | ⟨_, _, h3⟩
      · exact absurd h1 ‹_›
      · exact h3
    rw [toSetFunctor_eq hs]
    simp only [Option.bind_some]
    rw [spec_ISM_eq hs, impl_ISM_eq hs]
    simp only [Option.bind_some]
    have hg : SmallM (if IsSet F then ((⟨F, F, idParts F⟩ : XSetMap), (0 : Int)) else (zeroM, 1)).1 := by
      split
      · rename_i hi
        exact ⟨hs, hs, (idParts_small hi.1).1, (idParts_small hi.1).2⟩
      · exact zeroM_small
    generalize (if IsSet F then ((⟨F, F, idParts F⟩ : XSetMap), (0 : Int)) else (zeroM, 1)) = g at hg
    obtain ⟨g, w⟩ := g
    dsimp only at hg ⊢
    rw [eqSetMap_refl hg, eqSetFunctor_refl hs]
    obtain ⟨n1, x1, a1, b1, e1, f1, _⟩ := mh_G hs 1 (by omega) (by omega)
    obtain ⟨n2, x2, a2, b2, e2, f2, _⟩ := mh_M hg 1 (by omega) (by omega)
    simp only [Option.bind_some, bne_self_eq_false, Bool.false_eq_true, if_false, if_true, e1, e2, f2]
    rw [if_neg (by omega), if_neg (by omega)]
end Go.Gx
