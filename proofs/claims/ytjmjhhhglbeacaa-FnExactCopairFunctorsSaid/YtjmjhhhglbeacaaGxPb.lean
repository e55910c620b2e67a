/- Plain laws: which tables are categories, and which are functors, by spec and by impl alike. -/
import Derived.Test.YtjmjhhhglbeacaaGxPa
namespace Go.Gx
open Classical
set_option maxHeartbeats 4000000

theorem eqInt64SS_refl {l : List (List Int)} (h : Small l) (hr : ∀ r ∈ l, Small r) : M.laws_eqInt64SS l l = some true := by
  apply Ret.eq
  unfold M.laws_eqInt64SS
  simp only [bne_self_eq_false, Bool.false_eq_true, if_false, decide_eq_true_eq]
  refine Ret.all (l.length : Int) (fun _ => True) (by omega) (by omega) ?_ ?_
  · intro i next hi0 hi1 hp hn1
    have := hr _ (el_mem hi0 hi1)
    (repeat' (first | with_reducible refine Ret.pos ‹_› ?_ | with_reducible refine Ret.neg ‹_› ?_ | with_reducible refine Ret.neg (Int.lt_irrefl _) ?_ | with_reducible refine Ret.ite (fun _ => ?_) (fun _ => ?_) | with_reducible refine Ret.idx ?_ ?_ ?_ | with_reducible refine Ret.chk ?_ ?_ | with_reducible refine hn3 ?_ | with_reducible refine hn2 ?_ | with_reducible refine hn1 ?_ | with_reducible refine hn3 _ ?_ | with_reducible refine hn2 _ ?_ | with_reducible refine hn1 _ ?_ | with_reducible refine Ret.call (eqInt64S_refl ?_) ?_ | with_reducible refine Ret.some ?_))
    all_goals (try ((fail_if_success (with_reducible refine Ret.probe ?_)); grind))
  · intro next hp
    (repeat' (first | with_reducible refine Ret.pos ‹_› ?_ | with_reducible refine Ret.neg ‹_› ?_ | with_reducible refine Ret.neg (Int.lt_irrefl _) ?_ | with_reducible refine Ret.ite (fun _ => ?_) (fun _ => ?_) | with_reducible refine Ret.idx ?_ ?_ ?_ | with_reducible refine Ret.chk ?_ ?_ | with_reducible refine hn3 ?_ | with_reducible refine hn2 ?_ | with_reducible refine hn1 ?_ | with_reducible refine hn3 _ ?_ | with_reducible refine hn2 _ ?_ | with_reducible refine hn1 _ ?_ | with_reducible refine Ret.some ?_))
    all_goals (try ((fail_if_success (with_reducible refine Ret.probe ?_)); grind))

theorem eqCategory_refl {c : XCategory} (h : SmallC c) : M.laws_eqCategory c c = some true := by
  unfold M.laws_eqCategory
  rw [eqInt64S_refl h.s1, eqInt64S_refl h.s2, eqInt64S_refl h.s3, eqInt64SS_refl h.s4 h.s5]; simp

theorem eqFunctor_refl {f : XFunctor} (h : SmallF f) : M.laws_eqFunctor f f = some true := by
  unfold M.laws_eqFunctor
  rw [eqCategory_refl h.s1, eqCategory_refl h.s2, eqInt64S_refl h.s3, eqInt64S_refl h.s4]; simp

/-! ### ranges -/

abbrev In (n : Int) (l : List Int) : Prop := ∀ i, 0 ≤ i → i < (l.length : Int) → 0 ≤ el l i ∧ el l i < n

theorem l01In_eq (a b c : Int) : M.spec_l01In a b c = some (decide (b ≤ a) && decide (a ≤ c)) := by
  unfold M.spec_l01In
  by_cases h : b ≤ a <;> simp [h]
theorem inRange_eq (a b c : Int) : M.impl_inRange a b c = some (decide (b ≤ a) && decide (a ≤ c)) := by
  unfold M.impl_inRange
  by_cases h : b ≤ a <;> simp [h]

theorem l01Map_eq {n : Int} {l : List Int} (h : Small l) : M.spec_l01Map n l = some (decide (In n l)) := by
  apply Ret.ask
  unfold M.spec_l01Map
  simp only [decide_eq_true_eq]
  refine Ret.all (l.length : Int) (fun i => 0 ≤ el l i ∧ el l i < n) (by omega) (by omega) ?_ ?_
  · intro i next hi0 hi1 hp hn1
    (repeat' (first | with_reducible refine Ret.pos ‹_› ?_ | with_reducible refine Ret.neg ‹_› ?_ | with_reducible refine Ret.neg (Int.lt_irrefl _) ?_ | with_reducible refine Ret.ite (fun _ => ?_) (fun _ => ?_) | with_reducible refine Ret.idx ?_ ?_ ?_ | with_reducible refine Ret.chk ?_ ?_ | with_reducible refine hn3 ?_ | with_reducible refine hn2 ?_ | with_reducible refine hn1 ?_ | with_reducible refine hn3 _ ?_ | with_reducible refine hn2 _ ?_ | with_reducible refine hn1 _ ?_ | with_reducible refine Ret.some ?_))
    all_goals (try ((fail_if_success (with_reducible refine Ret.probe ?_)); grind))
  · intro next hp
    (repeat' (first | with_reducible refine Ret.pos ‹_› ?_ | with_reducible refine Ret.neg ‹_› ?_ | with_reducible refine Ret.neg (Int.lt_irrefl _) ?_ | with_reducible refine Ret.ite (fun _ => ?_) (fun _ => ?_) | with_reducible refine Ret.idx ?_ ?_ ?_ | with_reducible refine Ret.chk ?_ ?_ | with_reducible refine hn3 ?_ | with_reducible refine hn2 ?_ | with_reducible refine hn1 ?_ | with_reducible refine hn3 _ ?_ | with_reducible refine hn2 _ ?_ | with_reducible refine hn1 _ ?_ | with_reducible refine Ret.some ?_))
    all_goals (try ((fail_if_success (with_reducible refine Ret.probe ?_)); grind))

theorem within_eq {n : Int} {l : List Int} (h : Small l) (h0 : -4611686018427387904 ≤ n) (h1 : n ≤ 4611686018427387904) : M.impl_within l n = some (decide (In n l)) := by
  apply Ret.ask
  unfold M.impl_within
  rw [wrap_in (by omega) (by omega)]
  simp only [decide_eq_true_eq]
  refine Ret.all (l.length : Int) (fun i => 0 ≤ el l i ∧ el l i < n) (by omega) (by omega) ?_ ?_
  · intro i next hi0 hi1 hp hn1
    (repeat' (first | with_reducible refine Ret.pos ‹_› ?_ | with_reducible refine Ret.neg ‹_› ?_ | with_reducible refine Ret.neg (Int.lt_irrefl _) ?_ | with_reducible refine Ret.ite (fun _ => ?_) (fun _ => ?_) | with_reducible refine Ret.idx ?_ ?_ ?_ | with_reducible refine Ret.chk ?_ ?_ | with_reducible refine hn3 ?_ | with_reducible refine hn2 ?_ | with_reducible refine hn1 ?_ | with_reducible refine hn3 _ ?_ | with_reducible refine hn2 _ ?_ | with_reducible refine hn1 _ ?_ | with_reducible refine Ret.call (inRange_eq _ _ _) ?_ | with_reducible refine Ret.some ?_))
    all_goals (try ((fail_if_success (with_reducible refine Ret.probe ?_)); grind))
  · intro next hp
    (repeat' (first | with_reducible refine Ret.pos ‹_› ?_ | with_reducible refine Ret.neg ‹_› ?_ | with_reducible refine Ret.neg (Int.lt_irrefl _) ?_ | with_reducible refine Ret.ite (fun _ => ?_) (fun _ => ?_) | with_reducible refine Ret.idx ?_ ?_ ?_ | with_reducible refine Ret.chk ?_ ?_ | with_reducible refine hn3 ?_ | with_reducible refine hn2 ?_ | with_reducible refine hn1 ?_ | with_reducible refine hn3 _ ?_ | with_reducible refine hn2 _ ?_ | with_reducible refine hn1 _ ?_ | with_reducible refine Ret.call (inRange_eq _ _ _) ?_ | with_reducible refine Ret.some ?_))
    all_goals (try ((fail_if_success (with_reducible refine Ret.probe ?_)); grind))

theorem l02Ends_eq {n m : Int} {l : List Int} (h : Small l) : M.spec_l02Ends l m n = some (decide ((l.length : Int) = m ∧ In n l)) := by
  apply Ret.ask
  unfold M.spec_l02Ends
  simp only [beq_iff_eq]
  (repeat' (first | with_reducible refine Ret.pos ‹_› ?_ | with_reducible refine Ret.neg ‹_› ?_ | with_reducible refine Ret.neg (Int.lt_irrefl _) ?_ | with_reducible refine Ret.ite (fun _ => ?_) (fun _ => ?_) | with_reducible refine Ret.idx ?_ ?_ ?_ | with_reducible refine Ret.chk ?_ ?_ | with_reducible refine hn3 ?_ | with_reducible refine hn2 ?_ | with_reducible refine hn1 ?_ | with_reducible refine hn3 _ ?_ | with_reducible refine hn2 _ ?_ | with_reducible refine hn1 _ ?_ | with_reducible refine Ret.call (l01Map_eq h) ?_ | with_reducible refine Ret.some ?_))
  all_goals (try ((fail_if_success (with_reducible refine Ret.probe ?_)); grind))

/-! ### categories -/

/-- The composite of i and j. -/
abbrev cmp (c : XCategory) (i j : Int) : Int := el (el c.Composites i) j

def CompOk (c : XCategory) (i j : Int) : Prop :=
  (el c.To i ≠ el c.From j → cmp c i j = -1) ∧
  (el c.To i = el c.From j → 0 ≤ cmp c i j ∧ cmp c i j < (c.From.length : Int) ∧ el c.From (cmp c i j) = el c.From i ∧ el c.To (cmp c i j) = el c.To j)

def Shape (c : XCategory) : Prop :=
  0 ≤ c.Objects ∧ c.Objects ≤ 8 ∧ (c.From.length : Int) ≤ 40 ∧ (c.To.length : Int) = (c.From.length : Int) ∧ (c.Identity.length : Int) = c.Objects ∧
  (c.Composites.length : Int) = (c.From.length : Int) ∧ In c.Objects c.From ∧ In c.Objects c.To ∧ In (c.From.length : Int) c.Identity ∧
  (∀ i, 0 ≤ i → i < c.Objects → el c.From (el c.Identity i) = i ∧ el c.To (el c.Identity i) = i) ∧
  (∀ i, 0 ≤ i → i < (c.From.length : Int) → ((el c.Composites i).length : Int) = (c.From.length : Int) ∧ ∀ j, 0 ≤ j → j < (c.From.length : Int) → CompOk c i j)

theorem IsShape_eq {c : XCategory} (h : SmallC c) : M.spec_IsShape c = some (decide (Shape c)) := by
  apply Ret.ask
  obtain ⟨s1, s2, s3, s4, s5⟩ := h
  unfold M.spec_IsShape
  simp only [decide_eq_true_eq, bne_iff_ne, ne_eq]
  (repeat' (first | with_reducible refine Ret.pos ‹_› ?_ | with_reducible refine Ret.neg ‹_› ?_ | with_reducible refine Ret.neg (Int.lt_irrefl _) ?_ | with_reducible refine Ret.ite (fun _ => ?_) (fun _ => ?_) | with_reducible refine Ret.idx ?_ ?_ ?_ | with_reducible refine Ret.chk ?_ ?_ | with_reducible refine hn3 ?_ | with_reducible refine hn2 ?_ | with_reducible refine hn1 ?_ | with_reducible refine hn3 _ ?_ | with_reducible refine hn2 _ ?_ | with_reducible refine hn1 _ ?_ | with_reducible refine Ret.call (l01In_eq _ _ _) ?_ | with_reducible refine Ret.call (l02Ends_eq ?_) ?_ | with_reducible refine Ret.call (l01Map_eq ?_) ?_ | with_reducible refine Ret.some ?_))
  all_goals (try ((fail_if_success (with_reducible refine Ret.probe ?_)); grind [Shape]))
  refine Ret.all c.Objects (fun i => el c.From (el c.Identity i) = i ∧ el c.To (el c.Identity i) = i) ?_ ?_ ?_ ?_
  · grind
  · grind
  · intro i next hi0 hi1 hp hn1
    (repeat' (first | with_reducible refine Ret.pos ‹_› ?_ | with_reducible refine Ret.neg ‹_› ?_ | with_reducible refine Ret.neg (Int.lt_irrefl _) ?_ | with_reducible refine Ret.ite (fun _ => ?_) (fun _ => ?_) | with_reducible refine Ret.idx ?_ ?_ ?_ | with_reducible refine Ret.chk ?_ ?_ | with_reducible refine hn3 ?_ | with_reducible refine hn2 ?_ | with_reducible refine hn1 ?_ | with_reducible refine hn3 _ ?_ | with_reducible refine hn2 _ ?_ | with_reducible refine hn1 _ ?_ | with_reducible refine Ret.some ?_))
    all_goals (try ((fail_if_success (with_reducible refine Ret.probe ?_)); grind [Shape]))
  · intro next hpI
    (repeat' (first | with_reducible refine Ret.pos ‹_› ?_ | with_reducible refine Ret.neg ‹_› ?_ | with_reducible refine Ret.neg (Int.lt_irrefl _) ?_ | with_reducible refine Ret.ite (fun _ => ?_) (fun _ => ?_) | with_reducible refine Ret.idx ?_ ?_ ?_ | with_reducible refine Ret.chk ?_ ?_ | with_reducible refine hn3 ?_ | with_reducible refine hn2 ?_ | with_reducible refine hn1 ?_ | with_reducible refine hn3 _ ?_ | with_reducible refine hn2 _ ?_ | with_reducible refine hn1 _ ?_ | with_reducible refine Ret.some ?_))
    all_goals (try ((fail_if_success (with_reducible refine Ret.probe ?_)); grind))
    refine Ret.all (c.From.length : Int) (fun i => ((el c.Composites i).length : Int) = (c.From.length : Int) ∧ ∀ j, 0 ≤ j → j < (c.From.length : Int) → CompOk c i j) (by omega) (by omega) ?_ ?_
    · intro i next hi0 hi1 hp hn1
      (repeat' (first | with_reducible refine Ret.pos ‹_› ?_ | with_reducible refine Ret.neg ‹_› ?_ | with_reducible refine Ret.neg (Int.lt_irrefl _) ?_ | with_reducible refine Ret.ite (fun _ => ?_) (fun _ => ?_) | with_reducible refine Ret.idx ?_ ?_ ?_ | with_reducible refine Ret.chk ?_ ?_ | with_reducible refine hn3 ?_ | with_reducible refine hn2 ?_ | with_reducible refine hn1 ?_ | with_reducible refine hn3 _ ?_ | with_reducible refine hn2 _ ?_ | with_reducible refine hn1 _ ?_ | with_reducible refine Ret.some ?_))
      all_goals (try ((fail_if_success (with_reducible refine Ret.probe ?_)); grind [Shape]))
      refine Ret.all (c.From.length : Int) (fun j => CompOk c i j) (by omega) (by omega) ?_ ?_
      · intro j next hj0 hj1 hp2 hn2
        (repeat' (first | with_reducible refine Ret.pos ‹_› ?_ | with_reducible refine Ret.neg ‹_› ?_ | with_reducible refine Ret.neg (Int.lt_irrefl _) ?_ | with_reducible refine Ret.ite (fun _ => ?_) (fun _ => ?_) | with_reducible refine Ret.idx ?_ ?_ ?_ | with_reducible refine Ret.chk ?_ ?_ | with_reducible refine hn3 ?_ | with_reducible refine hn2 ?_ | with_reducible refine hn1 ?_ | with_reducible refine hn3 _ ?_ | with_reducible refine hn2 _ ?_ | with_reducible refine hn1 _ ?_ | with_reducible refine Ret.some ?_))
        all_goals (try ((fail_if_success (with_reducible refine Ret.probe ?_)); grind [Shape, CompOk]))
      · intro next hp2
        (repeat' (first | with_reducible refine Ret.pos ‹_› ?_ | with_reducible refine Ret.neg ‹_› ?_ | with_reducible refine Ret.neg (Int.lt_irrefl _) ?_ | with_reducible refine Ret.ite (fun _ => ?_) (fun _ => ?_) | with_reducible refine Ret.idx ?_ ?_ ?_ | with_reducible refine Ret.chk ?_ ?_ | with_reducible refine hn3 ?_ | with_reducible refine hn2 ?_ | with_reducible refine hn1 ?_ | with_reducible refine hn3 _ ?_ | with_reducible refine hn2 _ ?_ | with_reducible refine hn1 _ ?_ | with_reducible refine Ret.some ?_))
        all_goals (try ((fail_if_success (with_reducible refine Ret.probe ?_)); grind))
    · intro next hp
      (repeat' (first | with_reducible refine Ret.pos ‹_› ?_ | with_reducible refine Ret.neg ‹_› ?_ | with_reducible refine Ret.neg (Int.lt_irrefl _) ?_ | with_reducible refine Ret.ite (fun _ => ?_) (fun _ => ?_) | with_reducible refine Ret.idx ?_ ?_ ?_ | with_reducible refine Ret.chk ?_ ?_ | with_reducible refine hn3 ?_ | with_reducible refine hn2 ?_ | with_reducible refine hn1 ?_ | with_reducible refine hn3 _ ?_ | with_reducible refine hn2 _ ?_ | with_reducible refine hn1 _ ?_ | with_reducible refine Ret.some ?_))
      all_goals (try ((fail_if_success (with_reducible refine Ret.probe ?_)); grind [Shape]))

theorem ends_eq {c : XCategory} {y : Int} (h0 : 0 ≤ y) (h1 : y < (c.From.length : Int)) (h2 : y < (c.To.length : Int)) : M.impl_Category_ends c y = some ⟨el c.From y, el c.To y⟩ := by
  unfold M.impl_Category_ends
  rw [idx_el h0 h1, idx_el h0 h2]; rfl

theorem isShape_eq {c : XCategory} (h : SmallC c) : M.impl_Category_isShape c = some (decide (Shape c)) := by
  apply Ret.ask
  obtain ⟨s1, s2, s3, s4, s5⟩ := h
  unfold M.impl_Category_isShape M.impl_Category_arrows
  have hw : IntKind.i64.wrap ((c.From.length : Int) - 1) = (c.From.length : Int) - 1 := wrap_in (by omega) (by omega)
  simp only [decide_eq_true_eq, bne_iff_ne, ne_eq, Option.bind_some, hw]
  (repeat' (first | with_reducible refine Ret.pos ‹_› ?_ | with_reducible refine Ret.neg ‹_› ?_ | with_reducible refine Ret.neg (Int.lt_irrefl _) ?_ | with_reducible refine Ret.ite (fun _ => ?_) (fun _ => ?_) | with_reducible refine Ret.idx ?_ ?_ ?_ | with_reducible refine Ret.chk ?_ ?_ | with_reducible refine hn3 ?_ | with_reducible refine hn2 ?_ | with_reducible refine hn1 ?_ | with_reducible refine hn3 _ ?_ | with_reducible refine hn2 _ ?_ | with_reducible refine hn1 _ ?_ | with_reducible refine Ret.call (inRange_eq _ _ _) ?_ | with_reducible refine Ret.call (within_eq ?_ ?_ ?_) ?_ | with_reducible refine Ret.some ?_))
  all_goals (try ((fail_if_success (with_reducible refine Ret.probe ?_)); grind [Shape]))
  refine Ret.all (c.Identity.length : Int) (fun i => el c.From (el c.Identity i) = i ∧ el c.To (el c.Identity i) = i) ?_ ?_ ?_ ?_
  · grind
  · grind
  · intro i next hi0 hi1 hp hn1
    (repeat' (first | with_reducible refine Ret.pos ‹_› ?_ | with_reducible refine Ret.neg ‹_› ?_ | with_reducible refine Ret.neg (Int.lt_irrefl _) ?_ | with_reducible refine Ret.ite (fun _ => ?_) (fun _ => ?_) | with_reducible refine Ret.idx ?_ ?_ ?_ | with_reducible refine Ret.chk ?_ ?_ | with_reducible refine hn3 ?_ | with_reducible refine hn2 ?_ | with_reducible refine hn1 ?_ | with_reducible refine hn3 _ ?_ | with_reducible refine hn2 _ ?_ | with_reducible refine hn1 _ ?_ | with_reducible refine Ret.call (ends_eq ?_ ?_ ?_) ?_ | with_reducible refine Ret.some ?_))
    all_goals (try ((fail_if_success (with_reducible refine Ret.probe ?_)); grind [Shape]))
  · intro next hpI
    (repeat' (first | with_reducible refine Ret.pos ‹_› ?_ | with_reducible refine Ret.neg ‹_› ?_ | with_reducible refine Ret.neg (Int.lt_irrefl _) ?_ | with_reducible refine Ret.ite (fun _ => ?_) (fun _ => ?_) | with_reducible refine Ret.idx ?_ ?_ ?_ | with_reducible refine Ret.chk ?_ ?_ | with_reducible refine hn3 ?_ | with_reducible refine hn2 ?_ | with_reducible refine hn1 ?_ | with_reducible refine hn3 _ ?_ | with_reducible refine hn2 _ ?_ | with_reducible refine hn1 _ ?_ | with_reducible refine Ret.some ?_))
    all_goals (try ((fail_if_success (with_reducible refine Ret.probe ?_)); grind))
    refine Ret.all (c.Composites.length : Int) (fun i => ((el c.Composites i).length : Int) = (c.From.length : Int) ∧ ∀ j, 0 ≤ j → j < (c.From.length : Int) → CompOk c i j) (by omega) (by omega) ?_ ?_
    · intro i next hi0 hi1 hp hn1
      (repeat' (first | with_reducible refine Ret.pos ‹_› ?_ | with_reducible refine Ret.neg ‹_› ?_ | with_reducible refine Ret.neg (Int.lt_irrefl _) ?_ | with_reducible refine Ret.ite (fun _ => ?_) (fun _ => ?_) | with_reducible refine Ret.idx ?_ ?_ ?_ | with_reducible refine Ret.chk ?_ ?_ | with_reducible refine hn3 ?_ | with_reducible refine hn2 ?_ | with_reducible refine hn1 ?_ | with_reducible refine hn3 _ ?_ | with_reducible refine hn2 _ ?_ | with_reducible refine hn1 _ ?_ | with_reducible refine Ret.some ?_))
      all_goals (try ((fail_if_success (with_reducible refine Ret.probe ?_)); grind [Shape]))
      refine Ret.all ((el c.Composites i).length : Int) (fun j => CompOk c i j) (by omega) (by omega) ?_ ?_
      · intro j next hj0 hj1 hp2 hn2
        (repeat' (first | with_reducible refine Ret.pos ‹_› ?_ | with_reducible refine Ret.neg ‹_› ?_ | with_reducible refine Ret.neg (Int.lt_irrefl _) ?_ | with_reducible refine Ret.ite (fun _ => ?_) (fun _ => ?_) | with_reducible refine Ret.idx ?_ ?_ ?_ | with_reducible refine Ret.chk ?_ ?_ | with_reducible refine hn3 ?_ | with_reducible refine hn2 ?_ | with_reducible refine hn1 ?_ | with_reducible refine hn3 _ ?_ | with_reducible refine hn2 _ ?_ | with_reducible refine hn1 _ ?_ | with_reducible refine Ret.call (inRange_eq _ _ _) ?_ | with_reducible refine Ret.call (ends_eq ?_ ?_ ?_) ?_ | with_reducible refine Ret.some ?_))
        all_goals (try ((fail_if_success (with_reducible refine Ret.probe ?_)); grind [Shape, CompOk]))
      · intro next hp2
        (repeat' (first | with_reducible refine Ret.pos ‹_› ?_ | with_reducible refine Ret.neg ‹_› ?_ | with_reducible refine Ret.neg (Int.lt_irrefl _) ?_ | with_reducible refine Ret.ite (fun _ => ?_) (fun _ => ?_) | with_reducible refine Ret.idx ?_ ?_ ?_ | with_reducible refine Ret.chk ?_ ?_ | with_reducible refine hn3 ?_ | with_reducible refine hn2 ?_ | with_reducible refine hn1 ?_ | with_reducible refine hn3 _ ?_ | with_reducible refine hn2 _ ?_ | with_reducible refine hn1 _ ?_ | with_reducible refine Ret.some ?_))
        all_goals (try ((fail_if_success (with_reducible refine Ret.probe ?_)); grind))
    · intro next hp
      (repeat' (first | with_reducible refine Ret.pos ‹_› ?_ | with_reducible refine Ret.neg ‹_› ?_ | with_reducible refine Ret.neg (Int.lt_irrefl _) ?_ | with_reducible refine Ret.ite (fun _ => ?_) (fun _ => ?_) | with_reducible refine Ret.idx ?_ ?_ ?_ | with_reducible refine Ret.chk ?_ ?_ | with_reducible refine hn3 ?_ | with_reducible refine hn2 ?_ | with_reducible refine hn1 ?_ | with_reducible refine hn3 _ ?_ | with_reducible refine hn2 _ ?_ | with_reducible refine hn1 _ ?_ | with_reducible refine Ret.some ?_))
      rename_i b1 b2 b3 b4 b5 b6 b7 b8 nx
      simp only [Bool.and_eq_true, decide_eq_true_eq, Decidable.not_not] at b1 b2 b3 b4 b5 b6 b7 b8
      exact ⟨fun _ => ⟨b1.1, b1.2, by omega, b3, b6, b8, b4, b5, b7, fun i h0 h1 => hpI i h0 (by omega), fun i h0 h1 => hp i h0 (by omega)⟩, fun _ => rfl⟩

end Go.Gx
