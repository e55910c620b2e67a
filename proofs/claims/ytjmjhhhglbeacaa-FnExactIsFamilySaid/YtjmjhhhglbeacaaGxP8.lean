/- The law of HorizontalComposite. -/
import Derived.Test.YtjmjhhhglbeacaaGxPh
namespace Go.Gx
open Classical
set_option maxHeartbeats 1000000

/-- Arrows composed place by place. -/
def cmpL (c : XCategory) (a b : List Int) : List Int := tab (a.length : Int) fun i => cmp c (el a i) (el b i)

theorem l07Then_eq {c : XCategory} {a b : List Int} (hc : Shp c) (ha : Small a) (hl : a.length = b.length) (h1 : In (c.From.length : Int) a) (h2 : In (c.From.length : Int) b) : M.spec_l07Then c a b = some (cmpL c a b) := by
  apply Ret.eq
  unfold M.spec_l07Then
  have hm := hc.lco
  refine Ret.acc (a.length : Int) (fun i s => s = tab i fun i => cmp c (el a i) (el b i)) (by omega) (by omega) rfl ?_ ?_
  · rintro i s next hi0 hi1 rfl hn1
    dsimp only
    simp only [decide_eq_true_eq]
    rw [if_pos hi1]
    have x1 := h1 i hi0 hi1
    have x2 := h2 i hi0 (by omega)
    have x3 := hc.row _ x1.1 x1.2
    refine Ret.idx hi0 hi1 (Ret.idx x1.1 (by omega) (Ret.idx hi0 (by omega) (Ret.idx x2.1 (by omega) (Ret.chk ?_ (hn1 _ (tab_succ (fun i => cmp c (el a i) (el b i)) hi0).symm)))))
    rw [tab_length]; unfold lim; simp only [List.length_cons, List.length_nil]; omega
  · rintro s next rfl
    dsimp only
    simp only [decide_eq_true_eq]
    rw [if_neg (by omega)]
    exact Ret.some rfl

theorem composed_eq {c : XCategory} {a b : List Int} (hc : Shp c) (ha : Small a) (hl : a.length = b.length) (h1 : In (c.From.length : Int) a) (h2 : In (c.From.length : Int) b) : M.impl_Category_composed c a b = some (cmpL c a b) := by
  apply Ret.eq
  unfold M.impl_Category_composed
  have hm := hc.lco
  refine Ret.chk ⟨by omega, by unfold lim; omega⟩ ?_
  refine Ret.acc (a.length : Int) (fun i s => s = tab (a.length : Int) fun j => if j < i then cmp c (el a j) (el b j) else 0) (by omega) (by omega) ?_ ?_ ?_
  · rw [rep_tab]; apply tab_congr; intro j h0 h1; rw [if_neg (by omega)]
  · rintro i s next hi0 hi1 rfl hn1
    dsimp only
    simp only [decide_eq_true_eq]
    rw [if_pos hi1]
    have x1 := h1 i hi0 hi1
    have x2 := h2 i hi0 (by omega)
    have x3 := hc.row _ x1.1 x1.2
    refine Ret.idx hi0 hi1 (Ret.idx hi0 (by omega) (Ret.call (then_eq x1.1 (by omega) x2.1 (by omega)) (Ret.idx hi0 (by rw [tab_length]; omega) (hn1 _ ?_))))
    rw [set_tab hi0]
    apply tab_congr; intro j j0 j1
    by_cases hj : j = i
    · subst hj; rw [if_pos rfl, if_pos (show j < j + 1 by omega)]
    · rw [if_neg hj]
      by_cases hlt : j < i
      · rw [if_pos hlt, if_pos (show j < i + 1 by omega)]
      · rw [if_neg hlt, if_neg (show ¬ j < i + 1 by omega)]
  · rintro s next rfl
    dsimp only
    simp only [decide_eq_true_eq]
    rw [if_neg (by omega)]
    refine Ret.some ?_
    unfold cmpL
    apply tab_congr; intro j j0 j1; rw [if_pos j1]

theorem cmpL_small {c : XCategory} {a b : List Int} (h : Small a) : Small (cmpL c a b) := by
  unfold cmpL Small
  rw [tab_length]; omega

theorem el_thenL {a b : List Int} {i : Int} (h0 : 0 ≤ i) (h1 : i < (a.length : Int)) : el (thenL a b) i = el b (el a i) := el_tab h0 h1
theorem thenL_length (a b : List Int) : ((thenL a b).length : Int) = (a.length : Int) := by unfold thenL; rw [tab_length]; omega

/-- Two transformations beside each other. -/
def beside (s t : XTransformation) : XTransformation :=
  ⟨thenF s.Source t.Source, thenF s.Target t.Target, cmpL t.Source.Target (thenL s.Components t.Source.Arrows) (thenL s.Target.Objects t.Components)⟩

structure Next (s t : XTransformation) : Prop where
  m1 : Meet s.Source t.Source
  m2 : Meet s.Target t.Source
  m3 : Meet s.Target t.Target
  c1 : In (t.Source.Arrows.length : Int) s.Components
  c2 : In (t.Components.length : Int) s.Target.Objects
  sh : Shp t.Source.Target
  ll : (thenL s.Components t.Source.Arrows).length = (thenL s.Target.Objects t.Components).length
  i1 : In (t.Source.Target.From.length : Int) (thenL s.Components t.Source.Arrows)
  i2 : In (t.Source.Target.From.length : Int) (thenL s.Target.Objects t.Components)

theorem next_of {s t : XTransformation} (hs : IsNat s) (ht : IsNat t) (h : s.Source.Target = t.Source.Source) : Next s t := by
  obtain ⟨⟨s1, s2, sp, se⟩, _⟩ := hs
  obtain ⟨⟨t1, t2, tp, te⟩, _⟩ := ht
  have e1 : s.Target.Target = t.Source.Source := sp.2 ▸ h
  have e2 : s.Target.Target = t.Target.Source := tp.1 ▸ e1
  have a1 := t1.2.2.la
  have a2 := te.1
  have a3 := se.1
  have a4 := s2.2.2.lo
  have p1 : s.Source.Source = s.Target.Source := sp.1
  rw [← p1] at a4
  rw [← h] at a1 a2
  have c1 : In (t.Source.Arrows.length : Int) s.Components := fun i h0 h1 => by
    have := se.2.1 i h0 h1; omega
  have c2 : In (t.Components.length : Int) s.Target.Objects := fun i h0 h1 => by
    have := s2.2.2.ino i h0 h1
    have e3 : s.Source.Target = s.Target.Target := sp.2
    rw [← e3] at this; omega
  have l1 := thenL_length s.Components t.Source.Arrows
  have l2 := thenL_length s.Target.Objects t.Components
  refine ⟨meet_of s1 t1 h, meet_of s2 t1 e1, meet_of s2 t2 e2, c1, c2, t1.2.1.1.shp, by omega, ?_, ?_⟩
  · intro i h0 h1
    rw [l1] at h1
    rw [el_thenL h0 h1]
    have := c1 i h0 h1
    exact t1.2.2.ina _ this.1 this.2
  · intro i h0 h1
    rw [l2] at h1
    rw [el_thenL h0 h1]
    have := c2 i h0 h1
    exact te.2.1 _ this.1 this.2

theorem spec_HC_eq {s t : XTransformation} (hs : SmallT s) (ht : SmallT t) :
    M.spec_HorizontalComposite s t = some (if IsNat s ∧ IsNat t then (if s.Source.Target = t.Source.Source then (beside s t, 0) else (zeroT, 5)) else (zeroT, 1)) := by
  unfold M.spec_HorizontalComposite
  rw [l07Is_eq hs, l07Is_eq ht, l02Same_eq hs.s1.s2 ht.s1.s1]
  simp only [Option.bind_some, decide_eq_true_eq]
  by_cases h1 : IsNat s
  · by_cases h2 : IsNat t
    · by_cases h3 : s.Source.Target = t.Source.Source
      · have hn := next_of h1 h2 h3
        simp only [h1, h2, h3, if_true, and_self]
        unfold M.spec_l07Behind M.spec_l07Before
        rw [l06Then_eq hs.s1 ht.s1 hn.m1, l06Then_eq hs.s2 ht.s1 hn.m2, l06Then_eq hs.s2 ht.s2 hn.m3, l01Then_eq hs.s3 hn.c1, l01Then_eq hs.s2.s3 hn.c2]
        simp only [Option.bind_some]
        rw [l07Make_eq (thenF_small hs.s1 ht.s1) (thenF_small hs.s2 ht.s1) (thenL_small hs.s3), l07Make_eq (thenF_small hs.s2 ht.s1) (thenF_small hs.s2 ht.s2) (thenL_small hs.s2.s3)]
        simp only [Option.bind_some]
        rw [l07Then_eq hn.sh (thenL_small hs.s3) hn.ll hn.i1 hn.i2]
        simp only [Option.bind_some]
        rw [l07Make_eq (thenF_small hs.s1 ht.s1) (thenF_small hs.s2 ht.s2) (cmpL_small (thenL_small hs.s3))]; rfl
      · simp only [h1, h2, h3, if_true, if_false, and_self]; rfl
    · simp only [h1, h2, if_true, if_false, and_false]; rfl
  · simp only [h1, if_false, false_and]; rfl

theorem impl_HC_eq {s t : XTransformation} (hs : SmallT s) (ht : SmallT t) :
    M.impl_HorizontalComposite s t = some (if IsNat s ∧ IsNat t then (if s.Source.Target = t.Source.Source then (beside s t, 0) else (zeroT, 5)) else (zeroT, 1)) := by
  unfold M.impl_HorizontalComposite
  rw [areNatural_eq (by simp) (by simp [hs, ht]), sameCategory_eq hs.s1.s2 ht.s1.s1]
  simp only [Option.bind_some, decide_eq_true_eq, List.mem_cons, List.not_mem_nil, or_false, forall_eq_or_imp, forall_eq]
  by_cases h1 : IsNat s ∧ IsNat t
  · by_cases h3 : s.Source.Target = t.Source.Source
    · have hn := next_of h1.1 h1.2 h3
      rw [if_pos h1, if_pos h1, if_pos h3, if_pos h3]
      rw [Functor_then_eq hs.s1 ht.s1 hn.m1, Functor_then_eq hs.s2 ht.s2 hn.m3, then2_eq hs.s3 hn.c1, then2_eq hs.s2.s3 hn.c2]
      simp only [Option.bind_some]
      rw [composed_eq hn.sh (thenL_small hs.s3) hn.ll hn.i1 hn.i2]
      simp only [Option.bind_some]
      rw [transformation_eq (thenF_small hs.s1 ht.s1) (thenF_small hs.s2 ht.s2) (cmpL_small (thenL_small hs.s3))]; rfl
    · rw [if_pos h1, if_pos h1, if_neg h3, if_neg h3]; rfl
  · rw [if_neg h1, if_neg h1]; rfl

theorem law_HorizontalComposite {s t : XTransformation} (h : R.XTransformation s) (h' : R.XTransformation t) : M.laws_FnExactHorizontalComposite s t = some true := by
  unfold M.laws_FnExactHorizontalComposite
  obtain ⟨v, e, hv⟩ := szTransformation_r (n := 1048576) (by decide) (by decide) (fitsT h)
  rw [e]
  simp only [Option.bind_some, decide_eq_true_eq]
  split
  · rfl
  · obtain ⟨hv0, hv1, hs⟩ : 0 ≤ v ∧ v ≤ 1048576 ∧ SmallT s := by
      rcases hv with ⟨h1, _⟩ | h3
      · exact absurd h1 ‹_›
      · exact h3
    obtain ⟨v', e', hv'⟩ := szTransformation_r (n := v) hv0 hv1 (fitsT h')
    rw [e']
    simp only [Option.bind_some]
    split
    · rfl
    · have ht : SmallT t := by
        rcases hv' with ⟨h1, _⟩ | h3
        · exact absurd h1 ‹_›
        · exact h3.2.2
      rw [toTransformation_eq hs, toTransformation_eq ht]
      simp only [Option.bind_some]
      rw [spec_HC_eq hs ht, impl_HC_eq hs ht]
      simp only [Option.bind_some]
      have hg : SmallT (if IsNat s ∧ IsNat t then (if s.Source.Target = t.Source.Source then (beside s t, (0 : Int)) else (zeroT, 5)) else (zeroT, 1)).1 := by
        split
        · split
          · exact ⟨thenF_small hs.s1 ht.s1, thenF_small hs.s2 ht.s2, cmpL_small (thenL_small hs.s3)⟩
          · exact zeroT_small
        · exact zeroT_small
      generalize (if IsNat s ∧ IsNat t then (if s.Source.Target = t.Source.Source then (beside s t, (0 : Int)) else (zeroT, 5)) else (zeroT, 1)) = g at hg
      obtain ⟨g, w⟩ := g
      dsimp only at hg ⊢
      rw [eqTransformation_refl hg, eqTransformation_refl hs, eqTransformation_refl ht]
      obtain ⟨n1, x1, a1, b1, e1, f1, _⟩ := mh_T hs 1 (by omega) (by omega)
      obtain ⟨n2, x2, a2, b2, e2, f2, _⟩ := mh_T ht (1 + n1) (by omega) (by omega)
      obtain ⟨n3, x3, a3, b3, e3, f3, _⟩ := mh_T hg 1 (by omega) (by omega)
      simp only [Option.bind_some, bne_self_eq_false, Bool.false_eq_true, if_false, if_true, e1, e2, e3, f3]
      rw [if_neg (by omega), if_neg (by omega)]

end Go.Gx
