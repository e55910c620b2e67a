/- Plain laws: sameness; natural transformations; functors after each other. -/
import Derived.Test.YtjmjhhhglbeacaaGxPg
import Derived.Test.YtjmjhhhglbeacaaGxL8M
namespace Go.Gx
open Classical
set_option maxHeartbeats 4000000

instance : Inhabited XFunctor := ⟨zeroF⟩
instance : Inhabited XTransformation := ⟨zeroT⟩

/-! ### sizes -/
structure FitsT (t : XTransformation) : Prop where
  f1 : FitsF t.Source
  f2 : FitsF t.Target
  f3 : Fits t.Components
theorem fitsT {t : XTransformation} (h : R.XTransformation t) : FitsT t := ⟨fitsF h.1, fitsF h.2.1, h.2.2.1⟩

theorem szTransformation_r {t : XTransformation} {n : Int} (h0 : 0 ≤ n) (h1 : n ≤ 1048576) (h : FitsT t) :
    Ret (M.laws_szTransformation t n) fun r => (r < 0 ∧ r = -1) ∨ (0 ≤ r ∧ r ≤ n ∧ SmallT t) := by
  obtain ⟨g1, g2, g3⟩ := h
  unfold M.laws_szTransformation
  simp only [decide_eq_true_eq]
  (repeat' (first | with_reducible refine Ret.pos ‹_› ?_ | with_reducible refine Ret.neg ‹_› ?_ | with_reducible refine Ret.neg (Int.lt_irrefl _) ?_ | with_reducible refine Ret.ite (fun _ => ?_) (fun _ => ?_) | with_reducible refine Ret.idx ?_ ?_ ?_ | with_reducible refine Ret.chk ?_ ?_ | with_reducible refine hn3 ?_ | with_reducible refine hn2 ?_ | with_reducible refine hn1 ?_ | with_reducible refine hn3 _ ?_ | with_reducible refine hn2 _ ?_ | with_reducible refine hn1 _ ?_ | with_reducible refine Ret.bind (szInt64S_r ?_ ?_ ?_) fun v hv => ?_ | with_reducible refine Ret.bind (szFunctor_r ?_ ?_ ?_) fun v hv => ?_ | with_reducible refine Ret.some ?_))
  all_goals first | assumption | omega | (refine Or.inl ⟨by omega, rfl⟩) | (refine Or.inr ⟨by omega, by omega, ⟨?_, ?_, ?_⟩⟩ <;> grind)

theorem toTransformation_eq {t : XTransformation} (h : SmallT t) : M.laws_toTransformation t = some t := by
  unfold M.laws_toTransformation
  rw [toFunctor_eq h.s1, toFunctor_eq h.s2, toInt64S_eq h.s3]; rfl

/-! ### the same -/
theorem l01Same_eq {a b : List Int} (ha : Small a) (_ : Small b) : M.spec_l01Same a b = some (decide (a = b)) := by
  apply Ret.ask
  unfold M.spec_l01Same
  simp only [decide_eq_true_eq, bne_iff_ne, ne_eq]
  refine Ret.ite (fun h => Ret.some ?_) (fun h => ?_)
  · exact ⟨(fun h => by cases h), fun e => absurd (by rw [e]) h⟩
  · refine Ret.all (a.length : Int) (fun i => el a i = el b i) (by omega) (by omega) ?_ ?_
    · intro i next hi0 hi1 hp hn1
      rw [if_pos hi1]
      refine Ret.idx hi0 hi1 (Ret.idx hi0 (by omega) (Ret.ite (fun hne => Ret.some ?_) (fun he => hn1 (Decidable.not_not.1 he))))
      exact ⟨(fun h => by cases h), fun e => absurd (by rw [e]) hne⟩
    · intro next hp
      rw [if_neg (by omega)]
      exact Ret.some ⟨fun _ => list_ext (by omega) hp, fun _ => rfl⟩

theorem l01Same2_eq {a b : List (List Int)} (ha : Small a) (_ : Small b) (hra : ∀ r ∈ a, Small r) (hrb : ∀ r ∈ b, Small r) : M.spec_l01Same2 a b = some (decide (a = b)) := by
  apply Ret.ask
  unfold M.spec_l01Same2
  simp only [decide_eq_true_eq, bne_iff_ne, ne_eq]
  refine Ret.ite (fun h => Ret.some ?_) (fun h => ?_)
  · exact ⟨(fun h => by cases h), fun e => absurd (by rw [e]) h⟩
  · refine Ret.all (a.length : Int) (fun i => el a i = el b i) (by omega) (by omega) ?_ ?_
    · intro i next hi0 hi1 hp hn1
      rw [if_pos hi1]
      refine Ret.idx hi0 hi1 (Ret.idx hi0 (by omega) (Ret.call (l01Same_eq (hra _ (el_mem hi0 hi1)) (hrb _ (el_mem hi0 (by omega)))) (Ret.ite (fun he => hn1 (of_decide_eq_true he)) (fun hne => Ret.some ?_))))
      exact ⟨(fun h => by cases h), fun e => absurd (decide_eq_true (by rw [e])) hne⟩
    · intro next hp
      rw [if_neg (by omega)]
      exact Ret.some ⟨fun _ => list_ext (by omega) hp, fun _ => rfl⟩

theorem compare_r {a b : List Int} (ha : Small a) (hb : Small b) : Ret (M.impl_compare a b) fun r => r = 0 ↔ a = b := by
  unfold M.impl_compare
  simp only [decide_eq_true_eq, bne_iff_ne, ne_eq, beq_iff_eq]
  refine Ret.all (a.length : Int) (fun i => i < (b.length : Int) ∧ el a i = el b i) (by omega) (by omega) ?_ ?_
  · intro i next hi0 hi1 hp hn1
    have hib : i ≤ (b.length : Int) := by
      by_cases h0 : i = 0
      · omega
      · have := (hp (i - 1) (by omega) (by omega)).1; omega
    rw [if_pos hi1]
    refine Ret.ite (fun he => Ret.some ?_) (fun he => Ret.idx hi0 hi1 (Ret.idx hi0 (by omega) (Ret.ite (fun hne => Ret.ite (fun _ => Ret.some ?_) (fun _ => Ret.some ?_)) (fun h => hn1 ⟨by omega, Decidable.not_not.1 h⟩))))
    · exact ⟨fun h => by omega, fun e => by rw [e] at hi1; omega⟩
    · exact ⟨fun h => by omega, fun e => absurd (by rw [e]) hne⟩
    · exact ⟨fun h => by omega, fun e => absurd (by rw [e]) hne⟩
  · intro next hp
    rw [if_neg (by omega)]
    refine Ret.ite (fun hlt => Ret.some ?_) (fun hlt => Ret.some ?_)
    · exact ⟨fun h => by omega, fun e => by rw [e] at hlt; omega⟩
    · have hle : (a.length : Int) ≤ (b.length : Int) := by
        by_cases h0 : (a.length : Int) = 0
        · omega
        · have := (hp ((a.length : Int) - 1) (by omega) (by omega)).1; omega
      exact ⟨fun _ => list_ext (by omega) fun i h0 h1 => (hp i h0 h1).2, fun _ => rfl⟩

theorem same_eq {a b : List Int} (ha : Small a) (hb : Small b) : M.impl_same a b = some (decide (a = b)) := by
  apply Ret.ask
  unfold M.impl_same
  exact Ret.bind (compare_r ha hb) fun r hr => Ret.some (by rw [beq_iff_eq, hr])

theorem cat_eq_iff (c d : XCategory) : c = d ↔ c.Objects = d.Objects ∧ c.From = d.From ∧ c.To = d.To ∧ c.Identity = d.Identity ∧ c.Composites = d.Composites := by
  cases c; cases d; simp

theorem l02Same_eq {c d : XCategory} (hc : SmallC c) (hd : SmallC d) : M.spec_l02Same c d = some (decide (c = d)) := by
  unfold M.spec_l02Same
  rw [l01Same_eq hc.s1 hd.s1, l01Same_eq hc.s2 hd.s2, l01Same_eq hc.s3 hd.s3, l01Same2_eq hc.s4 hd.s4 hc.s5 hd.s5]
  simp only [Option.bind_some, beq_iff_eq, decide_eq_true_eq, cat_eq_iff]
  by_cases h1 : c.Objects = d.Objects <;> by_cases h2 : c.From = d.From <;> by_cases h3 : c.To = d.To <;> by_cases h4 : c.Identity = d.Identity <;> simp [h1, h2, h3, h4]

theorem sameCategory_eq {c d : XCategory} (hc : SmallC c) (hd : SmallC d) : M.impl_sameCategory c d = some (decide (c = d)) := by
  apply Ret.ask
  unfold M.impl_sameCategory
  rw [same_eq hc.s1 hd.s1, same_eq hc.s2 hd.s2, same_eq hc.s3 hd.s3]
  have hc4 := hc.s4
  have hd4 := hd.s4
  simp only [Option.bind_some, bne_iff_ne, ne_eq, decide_eq_true_eq, cat_eq_iff]
  refine Ret.ite (fun h => Ret.some (by simp [h])) (fun h => ?_)
  refine Ret.ite (fun h2 => ?_) (fun h2 => Ret.some (by simp [h2]))
  refine Ret.ite (fun h3 => ?_) (fun h3 => Ret.some (by simp [h3]))
  refine Ret.ite (fun h4 => ?_) (fun h4 => Ret.some (by simp [h4]))
  rw [Decidable.not_not] at h
  simp only [h, h2, h3, h4, true_and]
  refine Ret.ite (fun h5 => Ret.some ⟨(fun h => by cases h), fun e => absurd (by rw [e]) h5⟩) (fun h5 => ?_)
  refine Ret.all (c.Composites.length : Int) (fun i => el c.Composites i = el d.Composites i) (by omega) (by omega) ?_ ?_
  · intro i next hi0 hi1 hp hn1
    rw [if_pos hi1]
    refine Ret.idx hi0 hi1 (Ret.idx hi0 (by omega) (Ret.call (same_eq (hc.s5 _ (el_mem hi0 hi1)) (hd.s5 _ (el_mem hi0 (by omega)))) (Ret.ite (fun he => hn1 (of_decide_eq_true he)) (fun hne => Ret.some ?_))))
    exact ⟨(fun h => by cases h), fun e => absurd (decide_eq_true (by rw [e])) hne⟩
  · intro next hp
    rw [if_neg (by omega)]
    exact Ret.some ⟨fun _ => list_ext (by omega) hp, fun _ => rfl⟩

def Par (f g : XFunctor) : Prop := f.Source = g.Source ∧ f.Target = g.Target

theorem l07Parallel_eq {f g : XFunctor} (hf : SmallF f) (hg : SmallF g) : M.spec_l07Parallel f g = some (decide (Par f g)) := by
  unfold M.spec_l07Parallel Par
  rw [l02Same_eq hf.s1 hg.s1, l02Same_eq hf.s2 hg.s2]
  by_cases h1 : f.Source = g.Source <;> simp [h1]

theorem parallelFunctors_eq {f g : XFunctor} (hf : SmallF f) (hg : SmallF g) : M.impl_parallelFunctors f g = some (decide (Par f g)) := by
  unfold M.impl_parallelFunctors Par
  rw [sameCategory_eq hf.s1 hg.s1, sameCategory_eq hf.s2 hg.s2]
  by_cases h1 : f.Source = g.Source <;> simp [h1]

/-! ### lists of functors -/
theorem areFunctors_eq {l : List XFunctor} (hl : Small l) (h : ∀ c ∈ l, SmallF c) : M.impl_areFunctors l = some (decide (∀ c ∈ l, IsFun c)) := by
  apply Ret.ask
  unfold M.impl_areFunctors
  simp only [decide_eq_true_eq]
  refine Ret.all (l.length : Int) (fun i => IsFun (el l i)) (by omega) (by omega) ?_ ?_
  · intro i next hi0 hi1 hp hn1
    have := h _ (el_mem hi0 hi1)
    have hno : ¬ IsFun (el l i) → ¬ (∀ c ∈ l, IsFun c) := fun hx hN => hx (hN _ (el_mem hi0 hi1))
    (repeat' (first | with_reducible refine Ret.pos ‹_› ?_ | with_reducible refine Ret.neg ‹_› ?_ | with_reducible refine Ret.neg (Int.lt_irrefl _) ?_ | with_reducible refine Ret.ite (fun _ => ?_) (fun _ => ?_) | with_reducible refine Ret.idx ?_ ?_ ?_ | with_reducible refine Ret.chk ?_ ?_ | with_reducible refine hn3 ?_ | with_reducible refine hn2 ?_ | with_reducible refine hn1 ?_ | with_reducible refine hn3 _ ?_ | with_reducible refine hn2 _ ?_ | with_reducible refine hn1 _ ?_ | with_reducible refine Ret.call (isFunctor_eq ?_) ?_ | with_reducible refine Ret.some ?_))
    all_goals (try ((fail_if_success (with_reducible refine Ret.probe ?_)); grind))
  · intro next hp
    (repeat' (first | with_reducible refine Ret.pos ‹_› ?_ | with_reducible refine Ret.neg ‹_› ?_ | with_reducible refine Ret.neg (Int.lt_irrefl _) ?_ | with_reducible refine Ret.ite (fun _ => ?_) (fun _ => ?_) | with_reducible refine Ret.idx ?_ ?_ ?_ | with_reducible refine Ret.chk ?_ ?_ | with_reducible refine hn3 ?_ | with_reducible refine hn2 ?_ | with_reducible refine hn1 ?_ | with_reducible refine hn3 _ ?_ | with_reducible refine hn2 _ ?_ | with_reducible refine hn1 _ ?_ | with_reducible refine Ret.some ?_))
    simp only [true_iff]
    intro c hc
    obtain ⟨i, h0, h1, rfl⟩ := mem_el hc
    exact hp i h0 h1

/-! ### natural transformations -/
def Ends (f g : XFunctor) (c : List Int) : Prop :=
  (c.length : Int) = f.Source.Objects ∧ In (f.Target.From.length : Int) c ∧ ∀ i, 0 ≤ i → i < (c.length : Int) → el f.Target.From (el c i) = el f.Objects i ∧ el f.Target.To (el c i) = el g.Objects i

theorem l07Ends_eq {f g : XFunctor} {c : List Int} (hc : Small c) (hf : IsFun f) (hg : IsFun g) (hp : Par f g) : M.spec_l07Ends f g c = some (decide (Ends f g c)) := by
  apply Ret.ask
  unfold M.spec_l07Ends
  have hT := hf.2.1.1.shp
  have h1 := hT.lto
  have h2 := hf.2.2.lo
  have h3 := hg.2.2.lo
  have h4 : f.Source = g.Source := hp.1
  rw [← h4] at h3
  simp only [decide_eq_true_eq, bne_iff_ne, ne_eq]
  refine Ret.ite (fun h => Ret.some ⟨(fun h => by cases h), fun e => absurd e.1 h⟩) (fun h => ?_)
  refine Ret.call (l01Map_eq hc) (Ret.ite (fun hin => ?_) (fun hin => Ret.some ⟨(fun h => by cases h), fun e => absurd (decide_eq_true e.2.1) hin⟩))
  have hin := of_decide_eq_true hin
  refine Ret.all (c.length : Int) (fun i => el f.Target.From (el c i) = el f.Objects i ∧ el f.Target.To (el c i) = el g.Objects i) (by omega) (by omega) ?_ ?_
  · intro i next hi0 hi1 hp' hn1
    have hx := hin i hi0 hi1
    have hno : ¬ (el f.Target.From (el c i) = el f.Objects i ∧ el f.Target.To (el c i) = el g.Objects i) → ¬ Ends f g c := fun hx hN => hx (hN.2.2 i hi0 hi1)
    (repeat' (first | with_reducible refine Ret.pos ‹_› ?_ | with_reducible refine Ret.neg ‹_› ?_ | with_reducible refine Ret.neg (Int.lt_irrefl _) ?_ | with_reducible refine Ret.ite (fun _ => ?_) (fun _ => ?_) | with_reducible refine Ret.idx ?_ ?_ ?_ | with_reducible refine Ret.chk ?_ ?_ | with_reducible refine hn3 ?_ | with_reducible refine hn2 ?_ | with_reducible refine hn1 ?_ | with_reducible refine hn3 _ ?_ | with_reducible refine hn2 _ ?_ | with_reducible refine hn1 _ ?_ | with_reducible refine Ret.some ?_))
    all_goals (try ((fail_if_success (with_reducible refine Ret.probe ?_)); grind))
  · intro next hp'
    (repeat' (first | with_reducible refine Ret.pos ‹_› ?_ | with_reducible refine Ret.neg ‹_› ?_ | with_reducible refine Ret.neg (Int.lt_irrefl _) ?_ | with_reducible refine Ret.ite (fun _ => ?_) (fun _ => ?_) | with_reducible refine Ret.idx ?_ ?_ ?_ | with_reducible refine Ret.chk ?_ ?_ | with_reducible refine hn3 ?_ | with_reducible refine hn2 ?_ | with_reducible refine hn1 ?_ | with_reducible refine hn3 _ ?_ | with_reducible refine hn2 _ ?_ | with_reducible refine hn1 _ ?_ | with_reducible refine Ret.some ?_))
    exact ⟨fun _ => ⟨by omega, hin, hp'⟩, fun _ => rfl⟩

def ShapeT (t : XTransformation) : Prop := IsFun t.Source ∧ IsFun t.Target ∧ Par t.Source t.Target ∧ Ends t.Source t.Target t.Components

theorem l07Shape_eq {t : XTransformation} (h : SmallT t) : M.spec_l07Shape t = some (decide (ShapeT t)) := by
  apply Ret.ask
  unfold M.spec_l07Shape ShapeT
  refine Ret.call (l06Is_eq h.s1) (Ret.ite (fun h1 => ?_) (fun h1 => Ret.some ⟨(fun h => by cases h), fun e => absurd (decide_eq_true e.1) h1⟩))
  refine Ret.call (l06Is_eq h.s2) (Ret.ite (fun h2 => ?_) (fun h2 => Ret.some ⟨(fun h => by cases h), fun e => absurd (decide_eq_true e.2.1) h2⟩))
  refine Ret.call (l07Parallel_eq h.s1 h.s2) (Ret.ite (fun h3 => ?_) (fun h3 => Ret.some ⟨(fun h => by cases h), fun e => absurd (decide_eq_true e.2.2.1) h3⟩))
  have h1 := of_decide_eq_true h1
  have h2 := of_decide_eq_true h2
  have h3 := of_decide_eq_true h3
  refine Ret.call (l07Ends_eq h.s3 h1 h2 h3) (Ret.some ?_)
  rw [decide_eq_true_iff]
  exact ⟨fun e => ⟨h1, h2, h3, e⟩, fun e => e.2.2.2⟩

theorem isShapeT_eq {t : XTransformation} (h : SmallT t) : M.impl_Transformation_isShape t = some (decide (ShapeT t)) := by
  apply Ret.ask
  unfold M.impl_Transformation_isShape ShapeT M.impl_Category_arrows
  refine Ret.call (areFunctors_eq (by simp) (by simp [h.s1, h.s2])) (Ret.ite (fun h1 => ?_) (fun h1 => Ret.some ⟨(fun h => by cases h), fun e => absurd (decide_eq_true (by simp [e.1, e.2.1])) h1⟩))
  refine Ret.call (parallelFunctors_eq h.s1 h.s2) (Ret.ite (fun h3 => ?_) (fun h3 => Ret.some ⟨(fun h => by cases h), fun e => absurd (decide_eq_true e.2.2.1) h3⟩))
  have h12 := of_decide_eq_true h1
  simp only [List.mem_cons, List.not_mem_nil, or_false, forall_eq_or_imp, forall_eq] at h12
  have h3 := of_decide_eq_true h3
  obtain ⟨h1, h2⟩ := h12
  have hT := h1.2.1.1.shp
  have k1 := hT.lto
  have k2 := h1.2.2.lo
  have k3 := h2.2.2.lo
  have k4 : t.Source.Source = t.Target.Source := h3.1
  rw [← k4] at k3
  have k5 := hT.m40
  have hc := h.s3
  simp only [h1, h2, h3, true_and, bne_iff_ne, ne_eq, decide_eq_true_eq, Option.bind_some]
  refine Ret.ite (fun h => Ret.some ⟨(fun h => by cases h), fun e => absurd e.1 h⟩) (fun h => ?_)
  refine Ret.call (within_eq hc (by omega) (by omega)) (Ret.ite (fun hin => ?_) (fun hin => Ret.some ⟨(fun h => by cases h), fun e => absurd (decide_eq_true e.2.1) hin⟩))
  have hin := of_decide_eq_true hin
  refine Ret.all (t.Components.length : Int) (fun i => el t.Source.Target.From (el t.Components i) = el t.Source.Objects i ∧ el t.Source.Target.To (el t.Components i) = el t.Target.Objects i) (by omega) (by omega) ?_ ?_
  · intro i next hi0 hi1 hp' hn1
    have hx := hin i hi0 hi1
    have hno : ¬ (el t.Source.Target.From (el t.Components i) = el t.Source.Objects i ∧ el t.Source.Target.To (el t.Components i) = el t.Target.Objects i) → ¬ Ends t.Source t.Target t.Components := fun hx hN => hx (hN.2.2 i hi0 hi1)
    (repeat' (first | with_reducible refine Ret.pos ‹_› ?_ | with_reducible refine Ret.neg ‹_› ?_ | with_reducible refine Ret.neg (Int.lt_irrefl _) ?_ | with_reducible refine Ret.ite (fun _ => ?_) (fun _ => ?_) | with_reducible refine Ret.idx ?_ ?_ ?_ | with_reducible refine Ret.chk ?_ ?_ | with_reducible refine hn3 ?_ | with_reducible refine hn2 ?_ | with_reducible refine hn1 ?_ | with_reducible refine hn3 _ ?_ | with_reducible refine hn2 _ ?_ | with_reducible refine hn1 _ ?_ | with_reducible refine Ret.call (ends_eq ?_ ?_ ?_) ?_ | with_reducible refine Ret.some ?_))
    all_goals (try ((fail_if_success (with_reducible refine Ret.probe ?_)); grind))
  · intro next hp'
    (repeat' (first | with_reducible refine Ret.pos ‹_› ?_ | with_reducible refine Ret.neg ‹_› ?_ | with_reducible refine Ret.neg (Int.lt_irrefl _) ?_ | with_reducible refine Ret.ite (fun _ => ?_) (fun _ => ?_) | with_reducible refine Ret.idx ?_ ?_ ?_ | with_reducible refine Ret.chk ?_ ?_ | with_reducible refine hn3 ?_ | with_reducible refine hn2 ?_ | with_reducible refine hn1 ?_ | with_reducible refine hn3 _ ?_ | with_reducible refine hn2 _ ?_ | with_reducible refine hn1 _ ?_ | with_reducible refine Ret.some ?_))
    exact ⟨fun _ => ⟨by omega, hin, hp'⟩, fun _ => rfl⟩

def Sq (f g : XFunctor) (c : List Int) (a : Int) : Prop := cmp f.Target (el f.Arrows a) (el c (el f.Source.To a)) = cmp f.Target (el c (el f.Source.From a)) (el g.Arrows a)

/-- What the indices of a square need. -/
theorem ShapeT.facts {t : XTransformation} (h : ShapeT t) {a : Int} (h0 : 0 ≤ a) (h1 : a < (t.Source.Arrows.length : Int)) :
    a < (t.Source.Source.From.length : Int) ∧ a < (t.Source.Source.To.length : Int) ∧ a < (t.Target.Arrows.length : Int) ∧
    (0 ≤ el t.Source.Arrows a ∧ el t.Source.Arrows a < (t.Source.Target.From.length : Int)) ∧
    (0 ≤ el t.Target.Arrows a ∧ el t.Target.Arrows a < (t.Source.Target.From.length : Int)) ∧
    (0 ≤ el t.Source.Source.To a ∧ el t.Source.Source.To a < (t.Components.length : Int)) ∧
    (0 ≤ el t.Source.Source.From a ∧ el t.Source.Source.From a < (t.Components.length : Int)) ∧
    (0 ≤ el t.Components (el t.Source.Source.To a) ∧ el t.Components (el t.Source.Source.To a) < (t.Source.Target.From.length : Int)) ∧
    (0 ≤ el t.Components (el t.Source.Source.From a) ∧ el t.Components (el t.Source.Source.From a) < (t.Source.Target.From.length : Int)) := by
  obtain ⟨hS, hT, hp, hc⟩ := h
  have k1 := hS.1.1.shp
  have l1 := k1.lto
  have l2 := hS.2.2.la
  have l3 := hT.2.2.la
  have l4 := hT.2.2.ina a h0
  have l5 := hS.2.2.ina a h0 h1
  have p1 : t.Source.Source = t.Target.Source := hp.1
  have p2 : t.Source.Target = t.Target.Target := hp.2
  rw [← p1] at l3
  rw [← p2] at l4
  have m1 := k1.to_in a h0 (by omega)
  have m2 := k1.from_in a h0 (by omega)
  have l6 := hc.1
  have n1 := hc.2.1 (el t.Source.Source.To a) m1.1 (by omega)
  have n2 := hc.2.1 (el t.Source.Source.From a) m2.1 (by omega)
  exact ⟨by omega, by omega, by omega, l5, l4 (by omega), ⟨m1.1, by omega⟩, ⟨m2.1, by omega⟩, n1, n2⟩

theorem l07Square_eq {t : XTransformation} (h : ShapeT t) {a : Int} (h0 : 0 ≤ a) (h1 : a < (t.Source.Arrows.length : Int)) :
    M.spec_l07Square t.Source t.Target t.Components a = some (decide (Sq t.Source t.Target t.Components a)) := by
  obtain ⟨b1, b2, b3, b4, b5, b6, b7, b8, b9⟩ := h.facts h0 h1
  have hT := h.1.2.1.1.shp
  have r1 := hT.lco
  have r2 := hT.row _ b4.1 b4.2
  have r3 := hT.row _ b9.1 b9.2
  apply Ret.ask
  unfold M.spec_l07Square Sq
  (repeat' (first | with_reducible refine Ret.pos ‹_› ?_ | with_reducible refine Ret.neg ‹_› ?_ | with_reducible refine Ret.neg (Int.lt_irrefl _) ?_ | with_reducible refine Ret.ite (fun _ => ?_) (fun _ => ?_) | with_reducible refine Ret.idx ?_ ?_ ?_ | with_reducible refine Ret.chk ?_ ?_ | with_reducible refine hn3 ?_ | with_reducible refine hn2 ?_ | with_reducible refine hn1 ?_ | with_reducible refine hn3 _ ?_ | with_reducible refine hn2 _ ?_ | with_reducible refine hn1 _ ?_ | with_reducible refine Ret.some ?_))
  all_goals first | omega | (rw [beq_iff_eq])

theorem commutes_eq {t : XTransformation} (h : ShapeT t) {a : Int} (h0 : 0 ≤ a) (h1 : a < (t.Source.Arrows.length : Int)) :
    M.impl_commutes t.Source t.Target t.Components a = some (decide (Sq t.Source t.Target t.Components a)) := by
  obtain ⟨b1, b2, b3, b4, b5, b6, b7, b8, b9⟩ := h.facts h0 h1
  have hT := h.1.2.1.1.shp
  have r1 := hT.lco
  have r2 := hT.row _ b4.1 b4.2
  have r3 := hT.row _ b9.1 b9.2
  apply Ret.ask
  unfold M.impl_commutes Sq
  (repeat' (first | with_reducible refine Ret.pos ‹_› ?_ | with_reducible refine Ret.neg ‹_› ?_ | with_reducible refine Ret.neg (Int.lt_irrefl _) ?_ | with_reducible refine Ret.ite (fun _ => ?_) (fun _ => ?_) | with_reducible refine Ret.idx ?_ ?_ ?_ | with_reducible refine Ret.chk ?_ ?_ | with_reducible refine hn3 ?_ | with_reducible refine hn2 ?_ | with_reducible refine hn1 ?_ | with_reducible refine hn3 _ ?_ | with_reducible refine hn2 _ ?_ | with_reducible refine hn1 _ ?_ | with_reducible refine Ret.call (then_eq ?_ ?_ ?_ ?_) ?_ | with_reducible refine Ret.some ?_))
  all_goals first | omega | (rw [beq_iff_eq])

def Squares (t : XTransformation) : Prop := ∀ a, 0 ≤ a → a < (t.Source.Arrows.length : Int) → Sq t.Source t.Target t.Components a

theorem l07Fault_r {t : XTransformation} (hs : SmallT t) (h : ShapeT t) : Ret (M.spec_l07Fault t.Source t.Target t.Components) fun r => r < 0 ↔ Squares t := by
  unfold M.spec_l07Fault
  have := hs.s1.s4
  simp only [decide_eq_true_eq]
  refine Ret.all (t.Source.Arrows.length : Int) (fun a => Sq t.Source t.Target t.Components a) (by omega) (by omega) ?_ ?_
  · intro a next ha0 ha1 hp hn1
    rw [if_pos ha1]
    refine Ret.call (l07Square_eq h ha0 ha1) (Ret.ite (fun hq => hn1 (of_decide_eq_true hq)) (fun hq => Ret.some ?_))
    exact ⟨fun x => by omega, fun x => absurd (decide_eq_true (x a ha0 ha1)) hq⟩
  · intro next hp
    rw [if_neg (by omega)]
    exact Ret.some ⟨fun _ => hp, fun _ => by omega⟩

theorem firstFailure_r {t : XTransformation} (hs : SmallT t) (h : ShapeT t) : Ret (M.impl_firstFailure t (fun x0 x1 x2 x3 => M.impl_commutes x0 x1 x2 x3)) fun r => r < 0 ↔ Squares t := by
  unfold M.impl_firstFailure
  have := hs.s1.s4
  simp only [decide_eq_true_eq]
  refine Ret.all (t.Source.Arrows.length : Int) (fun a => Sq t.Source t.Target t.Components a) (by omega) (by omega) ?_ ?_
  · intro a next ha0 ha1 hp hn1
    rw [if_pos ha1]
    refine Ret.call (commutes_eq h ha0 ha1) (Ret.ite (fun hq => hn1 (of_decide_eq_true hq)) (fun hq => Ret.some ?_))
    exact ⟨fun x => by omega, fun x => absurd (decide_eq_true (x a ha0 ha1)) hq⟩
  · intro next hp
    rw [if_neg (by omega)]
    exact Ret.some ⟨fun _ => hp, fun _ => by omega⟩

def IsNat (t : XTransformation) : Prop := ShapeT t ∧ Squares t

theorem l07Is_eq {t : XTransformation} (h : SmallT t) : M.spec_l07Is t = some (decide (IsNat t)) := by
  apply Ret.ask
  unfold M.spec_l07Is
  refine Ret.call (l07Shape_eq h) (Ret.ite (fun h1 => ?_) (fun h1 => Ret.some ⟨(fun h => by cases h), fun e => absurd (decide_eq_true e.1) h1⟩))
  have h1 := of_decide_eq_true h1
  refine Ret.bind (l07Fault_r h h1) fun r hr => Ret.some ?_
  rw [decide_eq_true_iff, hr]
  exact ⟨fun x => ⟨h1, x⟩, fun x => x.2⟩

theorem isNatural_eq {t : XTransformation} (h : SmallT t) : M.impl_Transformation_isNatural t = some (decide (IsNat t)) := by
  apply Ret.ask
  unfold M.impl_Transformation_isNatural
  refine Ret.call (isShapeT_eq h) (Ret.ite (fun h1 => ?_) (fun h1 => Ret.some ⟨(fun h => by cases h), fun e => absurd (decide_eq_true e.1) h1⟩))
  have h1 := of_decide_eq_true h1
  refine Ret.bind (firstFailure_r h h1) fun r hr => Ret.some ?_
  rw [decide_eq_true_iff, hr]
  exact ⟨fun x => ⟨h1, x⟩, fun x => x.2⟩

theorem areNatural_eq {l : List XTransformation} (hl : Small l) (h : ∀ c ∈ l, SmallT c) : M.impl_areNatural l = some (decide (∀ c ∈ l, IsNat c)) := by
  apply Ret.ask
  unfold M.impl_areNatural
  simp only [decide_eq_true_eq]
  refine Ret.all (l.length : Int) (fun i => IsNat (el l i)) (by omega) (by omega) ?_ ?_
  · intro i next hi0 hi1 hp hn1
    have := h _ (el_mem hi0 hi1)
    have hno : ¬ IsNat (el l i) → ¬ (∀ c ∈ l, IsNat c) := fun hx hN => hx (hN _ (el_mem hi0 hi1))
    (repeat' (first | with_reducible refine Ret.pos ‹_› ?_ | with_reducible refine Ret.neg ‹_› ?_ | with_reducible refine Ret.neg (Int.lt_irrefl _) ?_ | with_reducible refine Ret.ite (fun _ => ?_) (fun _ => ?_) | with_reducible refine Ret.idx ?_ ?_ ?_ | with_reducible refine Ret.chk ?_ ?_ | with_reducible refine hn3 ?_ | with_reducible refine hn2 ?_ | with_reducible refine hn1 ?_ | with_reducible refine hn3 _ ?_ | with_reducible refine hn2 _ ?_ | with_reducible refine hn1 _ ?_ | with_reducible refine Ret.call (isNatural_eq ?_) ?_ | with_reducible refine Ret.some ?_))
    all_goals (try ((fail_if_success (with_reducible refine Ret.probe ?_)); grind))
  · intro next hp
    (repeat' (first | with_reducible refine Ret.pos ‹_› ?_ | with_reducible refine Ret.neg ‹_› ?_ | with_reducible refine Ret.neg (Int.lt_irrefl _) ?_ | with_reducible refine Ret.ite (fun _ => ?_) (fun _ => ?_) | with_reducible refine Ret.idx ?_ ?_ ?_ | with_reducible refine Ret.chk ?_ ?_ | with_reducible refine hn3 ?_ | with_reducible refine hn2 ?_ | with_reducible refine hn1 ?_ | with_reducible refine hn3 _ ?_ | with_reducible refine hn2 _ ?_ | with_reducible refine hn1 _ ?_ | with_reducible refine Ret.some ?_))
    simp only [true_iff]
    intro c hc
    obtain ⟨i, h0, h1, rfl⟩ := mem_el hc
    exact hp i h0 h1

/-! ### functors after each other -/
def thenF (f g : XFunctor) : XFunctor := ⟨f.Source, g.Target, thenL f.Objects g.Objects, thenL f.Arrows g.Arrows⟩
theorem thenF_small {f g : XFunctor} (hf : SmallF f) (hg : SmallF g) : SmallF (thenF f g) := ⟨hf.s1, hg.s2, thenL_small hf.s3, thenL_small hf.s4⟩

/-- f ends where g begins. -/
structure Meet (f g : XFunctor) : Prop where
  o : In (g.Objects.length : Int) f.Objects
  a : In (g.Arrows.length : Int) f.Arrows

theorem meet_of {f g : XFunctor} (hf : IsFun f) (hg : IsFun g) (h : f.Target = g.Source) : Meet f g := by
  have h1 := hg.2.2.lo
  have h2 := hg.2.2.la
  rw [← h] at h1 h2
  refine ⟨fun i h0 h3 => ?_, fun i h0 h3 => ?_⟩
  · have := hf.2.2.ino i h0 h3; omega
  · have := hf.2.2.ina i h0 h3; omega

theorem l06Then_eq {f g : XFunctor} (hf : SmallF f) (hg : SmallF g) (h : Meet f g) : M.spec_l06Then f g = some (thenF f g) := by
  unfold M.spec_l06Then
  rw [l01Then_eq hf.s3 h.o, l01Then_eq hf.s4 h.a]
  simp only [Option.bind_some]
  rw [l06Make_eq hf.s1 hg.s2 (thenL_small hf.s3) (thenL_small hf.s4)]; rfl

theorem Functor_then_eq {f g : XFunctor} (hf : SmallF f) (hg : SmallF g) (h : Meet f g) : M.impl_Functor_then f g = some (thenF f g) := by
  unfold M.impl_Functor_then
  rw [then2_eq hf.s3 h.o, then2_eq hf.s4 h.a]
  simp only [Option.bind_some]
  rw [functor_eq hf.s1 hg.s2 (thenL_small hf.s3) (thenL_small hf.s4)]; rfl
end Go.Gx
