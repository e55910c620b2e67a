import Derived.Test.YthafadgnjkmfkaaGxE2
import Derived.Test.YthafadgnjkmfkaaGxEM0
namespace Go.Gx
instance : Inhabited XCategory := ⟨⟨0, [], [], [], []⟩⟩
abbrev Small {α : Type} (l : List α) : Prop := (l.length : Int) ≤ 1048576
abbrev Fits {α : Type} (l : List α) : Prop := (l.length : Int) ≤ 9223372036854775807
structure FitsC (c : XCategory) : Prop where
  f1 : Fits c.From
  f2 : Fits c.To
  f3 : Fits c.Identity
  f4 : Fits c.Composites
  f5 : ∀ r ∈ c.Composites, Fits r
structure SmallC (c : XCategory) : Prop where
  s1 : Small c.From
  s2 : Small c.To
  s3 : Small c.Identity
  s4 : Small c.Composites
  s5 : ∀ r ∈ c.Composites, Small r
structure FitsF (f : XFunctor) : Prop where
  f1 : FitsC f.Source
  f2 : FitsC f.Target
  f3 : Fits f.Objects
  f4 : Fits f.Arrows
structure SmallF (f : XFunctor) : Prop where
  s1 : SmallC f.Source
  s2 : SmallC f.Target
  s3 : Small f.Objects
  s4 : Small f.Arrows
theorem szInt64S_r {l : List Int} {n : Int} (h0 : 0 ≤ n) (h1 : n ≤ 1048576) (hl : Fits l) :
    Ret (M.laws_szInt64S l n) fun r => (r < 0 ∧ r = -1) ∨ (0 ≤ r ∧ r ≤ n ∧ Small l) := by
  unfold M.laws_szInt64S
  rw [wrap_in (by omega) (by omega)]
  simp only [decide_eq_true_eq]
  (repeat' (first | with_reducible refine Ret.pos ‹_› ?_ | with_reducible refine Ret.neg ‹_› ?_ | with_reducible refine Ret.neg (Int.lt_irrefl _) ?_ | with_reducible refine Ret.ite (fun _ => ?_) (fun _ => ?_) | with_reducible refine Ret.idx ?_ ?_ ?_ | with_reducible refine Ret.chk ?_ ?_ | with_reducible refine hn3 ?_ | with_reducible refine hn2 ?_ | with_reducible refine hn1 ?_ | with_reducible refine hn3 _ ?_ | with_reducible refine hn2 _ ?_ | with_reducible refine hn1 _ ?_ | with_reducible refine Ret.some ?_))
  all_goals (try ((fail_if_success (with_reducible refine Ret.probe ?_)); grind))
theorem szInt64SS_r {l : List (List Int)} {n : Int} (h0 : 0 ≤ n) (h1 : n ≤ 1048576) (hl : Fits l) (hr : ∀ r ∈ l, Fits r) :
    Ret (M.laws_szInt64SS l n) fun r => (r < 0 ∧ r = -1) ∨ (0 ≤ r ∧ r ≤ n ∧ Small l ∧ ∀ x ∈ l, Small x) := by
  unfold M.laws_szInt64SS
  rw [wrap_in (by omega) (by omega)]
  simp only [decide_eq_true_eq]
  (repeat' (first | with_reducible refine Ret.pos ‹_› ?_ | with_reducible refine Ret.neg ‹_› ?_ | with_reducible refine Ret.neg (Int.lt_irrefl _) ?_ | with_reducible refine Ret.ite (fun _ => ?_) (fun _ => ?_) | with_reducible refine Ret.idx ?_ ?_ ?_ | with_reducible refine Ret.chk ?_ ?_ | with_reducible refine hn3 ?_ | with_reducible refine hn2 ?_ | with_reducible refine hn1 ?_ | with_reducible refine hn3 _ ?_ | with_reducible refine hn2 _ ?_ | with_reducible refine hn1 _ ?_ | with_reducible refine Ret.some ?_))
  all_goals (try ((fail_if_success (with_reducible refine Ret.probe ?_)); grind))
  refine Ret.acc (l.length : Int) (fun i a => 0 ≤ a ∧ a ≤ n ∧ ∀ j, 0 ≤ j → j < i → Small (el l j)) (by omega) (by omega) ⟨by omega, by omega, fun j h0 h1 => by omega⟩ ?_ ?_
  · intro i a next hi0 hi1 hp hn1
    dsimp only
    have := hr _ (el_mem hi0 hi1)
    (repeat' (first | with_reducible refine Ret.pos ‹_› ?_ | with_reducible refine Ret.neg ‹_› ?_ | with_reducible refine Ret.neg (Int.lt_irrefl _) ?_ | with_reducible refine Ret.ite (fun _ => ?_) (fun _ => ?_) | with_reducible refine Ret.idx ?_ ?_ ?_ | with_reducible refine Ret.chk ?_ ?_ | with_reducible refine hn3 ?_ | with_reducible refine hn2 ?_ | with_reducible refine hn1 ?_ | with_reducible refine hn3 _ ?_ | with_reducible refine hn2 _ ?_ | with_reducible refine hn1 _ ?_ | with_reducible refine Ret.bind (szInt64S_r ?_ ?_ ?_) fun v hv => ?_ | with_reducible refine Ret.some ?_))
    all_goals (try ((fail_if_success (with_reducible refine Ret.probe ?_)); grind))
  · intro a next hp
    dsimp only
    (repeat' (first | with_reducible refine Ret.pos ‹_› ?_ | with_reducible refine Ret.neg ‹_› ?_ | with_reducible refine Ret.neg (Int.lt_irrefl _) ?_ | with_reducible refine Ret.ite (fun _ => ?_) (fun _ => ?_) | with_reducible refine Ret.idx ?_ ?_ ?_ | with_reducible refine Ret.chk ?_ ?_ | with_reducible refine hn3 ?_ | with_reducible refine hn2 ?_ | with_reducible refine hn1 ?_ | with_reducible refine hn3 _ ?_ | with_reducible refine hn2 _ ?_ | with_reducible refine hn1 _ ?_ | with_reducible refine Ret.some ?_))
    refine Or.inr ⟨hp.1, hp.2.1, by omega, fun x hx => ?_⟩
    obtain ⟨i, h0, h1, rfl⟩ := mem_el hx
    exact hp.2.2 i h0 h1
theorem szCategory_r {c : XCategory} {n : Int} (h0 : 0 ≤ n) (h1 : n ≤ 1048576) (h : FitsC c) :
    Ret (M.laws_szCategory c n) fun r => (r < 0 ∧ r = -1) ∨ (0 ≤ r ∧ r ≤ n ∧ SmallC c) := by
  obtain ⟨g1, g2, g3, g4, g5⟩ := h
  unfold M.laws_szCategory
  simp only [decide_eq_true_eq]
  (repeat' (first | with_reducible refine Ret.pos ‹_› ?_ | with_reducible refine Ret.neg ‹_› ?_ | with_reducible refine Ret.neg (Int.lt_irrefl _) ?_ | with_reducible refine Ret.ite (fun _ => ?_) (fun _ => ?_) | with_reducible refine Ret.idx ?_ ?_ ?_ | with_reducible refine Ret.chk ?_ ?_ | with_reducible refine hn3 ?_ | with_reducible refine hn2 ?_ | with_reducible refine hn1 ?_ | with_reducible refine hn3 _ ?_ | with_reducible refine hn2 _ ?_ | with_reducible refine hn1 _ ?_ | with_reducible refine Ret.bind (szInt64S_r ?_ ?_ ?_) fun v hv => ?_ | with_reducible refine Ret.bind (szInt64SS_r ?_ ?_ ?_ ?_) fun v hv => ?_ | with_reducible refine Ret.some ?_))
  all_goals first | assumption | omega | (refine Or.inl ⟨by omega, rfl⟩) | (refine Or.inr ⟨by omega, by omega, ⟨by omega, by omega, by omega, by omega, ?_⟩⟩; grind)
theorem clone_eq {l : List Int} (h : Small l) : M.impl_clone l = some l := by
  unfold M.impl_clone chk
  rw [if_pos (by unfold lim; simp only [List.length_nil]; omega)]; simp
theorem own_eq {l : List Int} (h : Small l) : M.spec_l01Own l = some l := by
  unfold M.spec_l01Own chk
  rw [if_pos (by unfold lim; simp only [List.length_nil]; omega)]; simp
theorem clones_eq {l : List (List Int)} (h : Small l) (hr : ∀ r ∈ l, Small r) : M.impl_clones l = some l := by
  apply Ret.eq
  unfold M.impl_clones
  refine Ret.chk ⟨by omega, by unfold lim; omega⟩ ?_
  refine Ret.acc (l.length : Int) (fun i a => a = l.take i.toNat) (by omega) (by omega) (by simp) ?_ ?_
  · rintro i a next hi0 hi1 rfl hn1
    dsimp only
    simp only [decide_eq_true_eq]
    have := hr _ (el_mem hi0 hi1)
    (repeat' (first | with_reducible refine Ret.pos ‹_› ?_ | with_reducible refine Ret.neg ‹_› ?_ | with_reducible refine Ret.neg (Int.lt_irrefl _) ?_ | with_reducible refine Ret.ite (fun _ => ?_) (fun _ => ?_) | with_reducible refine Ret.idx ?_ ?_ ?_ | with_reducible refine Ret.chk ?_ ?_ | with_reducible refine hn3 ?_ | with_reducible refine hn2 ?_ | with_reducible refine hn1 ?_ | with_reducible refine hn3 _ ?_ | with_reducible refine hn2 _ ?_ | with_reducible refine hn1 _ ?_ | with_reducible refine Ret.call (clone_eq ?_) ?_ | with_reducible refine Ret.some ?_))
    all_goals (try ((fail_if_success (with_reducible refine Ret.probe ?_)); grind [lim, take_succ_el]))
  · rintro a next rfl
    dsimp only
    simp only [decide_eq_true_eq]
    (repeat' (first | with_reducible refine Ret.pos ‹_› ?_ | with_reducible refine Ret.neg ‹_› ?_ | with_reducible refine Ret.neg (Int.lt_irrefl _) ?_ | with_reducible refine Ret.ite (fun _ => ?_) (fun _ => ?_) | with_reducible refine Ret.idx ?_ ?_ ?_ | with_reducible refine Ret.chk ?_ ?_ | with_reducible refine hn3 ?_ | with_reducible refine hn2 ?_ | with_reducible refine hn1 ?_ | with_reducible refine hn3 _ ?_ | with_reducible refine hn2 _ ?_ | with_reducible refine hn1 _ ?_ | with_reducible refine Ret.some ?_))
    simp
theorem set_copy {α : Type} [Inhabited α] {l : List α} {z : α} {i : Int} (h0 : 0 ≤ i) (_ : i < (l.length : Int)) :
    (tab (l.length : Int) fun j => if j < i then el l j else z).set i.toNat (el l i) = tab (l.length : Int) fun j => if j < i + 1 then el l j else z := by
  rw [set_tab h0]
  apply tab_congr
  intro j hj0 hj1
  grind
theorem toInt64S_eq {l : List Int} (h : Small l) : M.laws_toInt64S l = some l := by
  apply Ret.eq
  unfold M.laws_toInt64S
  refine Ret.chk ⟨by omega, by unfold lim; omega⟩ ?_
  refine Ret.acc (l.length : Int) (fun i a => a = tab (l.length : Int) fun j => if j < i then el l j else 0) (by omega) (by omega) ?_ ?_ ?_
  · rw [rep_tab]; apply tab_congr; intro j h0 h1; rw [if_neg (by omega)]
  · rintro i a next hi0 hi1 rfl hn1
    dsimp only
    simp only [decide_eq_true_eq]
    have := set_copy (z := (0 : Int)) hi0 hi1
    (repeat' (first | with_reducible refine Ret.pos ‹_› ?_ | with_reducible refine Ret.neg ‹_› ?_ | with_reducible refine Ret.neg (Int.lt_irrefl _) ?_ | with_reducible refine Ret.ite (fun _ => ?_) (fun _ => ?_) | with_reducible refine Ret.idx ?_ ?_ ?_ | with_reducible refine Ret.chk ?_ ?_ | with_reducible refine hn3 ?_ | with_reducible refine hn2 ?_ | with_reducible refine hn1 ?_ | with_reducible refine hn3 _ ?_ | with_reducible refine hn2 _ ?_ | with_reducible refine hn1 _ ?_ | with_reducible refine Ret.some ?_))
    all_goals (try ((fail_if_success (with_reducible refine Ret.probe ?_)); grind [tab_length]))
  · rintro a next rfl
    dsimp only
    simp only [decide_eq_true_eq]
    (repeat' (first | with_reducible refine Ret.pos ‹_› ?_ | with_reducible refine Ret.neg ‹_› ?_ | with_reducible refine Ret.neg (Int.lt_irrefl _) ?_ | with_reducible refine Ret.ite (fun _ => ?_) (fun _ => ?_) | with_reducible refine Ret.idx ?_ ?_ ?_ | with_reducible refine Ret.chk ?_ ?_ | with_reducible refine hn3 ?_ | with_reducible refine hn2 ?_ | with_reducible refine hn1 ?_ | with_reducible refine hn3 _ ?_ | with_reducible refine hn2 _ ?_ | with_reducible refine hn1 _ ?_ | with_reducible refine Ret.some ?_))
    conv => rhs; rw [← tab_el l]
    apply tab_congr; intro j h0 h1; rw [if_pos h1]
theorem toInt64SS_eq {l : List (List Int)} (h : Small l) (hr : ∀ r ∈ l, Small r) : M.laws_toInt64SS l = some l := by
  apply Ret.eq
  unfold M.laws_toInt64SS
  refine Ret.chk ⟨by omega, by unfold lim; omega⟩ ?_
  refine Ret.acc (l.length : Int) (fun i a => a = tab (l.length : Int) fun j => if j < i then el l j else []) (by omega) (by omega) ?_ ?_ ?_
  · rw [rep_tab]; apply tab_congr; intro j h0 h1; rw [if_neg (by omega)]
  · rintro i a next hi0 hi1 rfl hn1
    dsimp only
    simp only [decide_eq_true_eq]
    have := set_copy (z := ([] : List Int)) hi0 hi1
    have := hr _ (el_mem hi0 hi1)
    (repeat' (first | with_reducible refine Ret.pos ‹_› ?_ | with_reducible refine Ret.neg ‹_› ?_ | with_reducible refine Ret.neg (Int.lt_irrefl _) ?_ | with_reducible refine Ret.ite (fun _ => ?_) (fun _ => ?_) | with_reducible refine Ret.idx ?_ ?_ ?_ | with_reducible refine Ret.chk ?_ ?_ | with_reducible refine hn3 ?_ | with_reducible refine hn2 ?_ | with_reducible refine hn1 ?_ | with_reducible refine hn3 _ ?_ | with_reducible refine hn2 _ ?_ | with_reducible refine hn1 _ ?_ | with_reducible refine Ret.call (toInt64S_eq ?_) ?_ | with_reducible refine Ret.some ?_))
    all_goals (try ((fail_if_success (with_reducible refine Ret.probe ?_)); grind [tab_length]))
  · rintro a next rfl
    dsimp only
    simp only [decide_eq_true_eq]
    (repeat' (first | with_reducible refine Ret.pos ‹_› ?_ | with_reducible refine Ret.neg ‹_› ?_ | with_reducible refine Ret.neg (Int.lt_irrefl _) ?_ | with_reducible refine Ret.ite (fun _ => ?_) (fun _ => ?_) | with_reducible refine Ret.idx ?_ ?_ ?_ | with_reducible refine Ret.chk ?_ ?_ | with_reducible refine hn3 ?_ | with_reducible refine hn2 ?_ | with_reducible refine hn1 ?_ | with_reducible refine hn3 _ ?_ | with_reducible refine hn2 _ ?_ | with_reducible refine hn1 _ ?_ | with_reducible refine Ret.some ?_))
    conv => rhs; rw [← tab_el l]
    apply tab_congr; intro j h0 h1; rw [if_pos h1]
theorem toCategory_eq {c : XCategory} (h : SmallC c) : M.laws_toCategory c = some c := by
  unfold M.laws_toCategory
  rw [toInt64S_eq h.s1, toInt64S_eq h.s2, toInt64S_eq h.s3, toInt64SS_eq h.s4 h.s5]; rfl
theorem copy_eq {c : XCategory} (h : SmallC c) : M.iC_copy c = some c := by
  unfold M.iC_copy
  rw [clone_eq h.s1, clone_eq h.s2, clone_eq h.s3, clones_eq h.s4 h.s5]; rfl
theorem eqInt64S_refl {l : List Int} (h : Small l) : M.laws_eqInt64S l l = some true := by
  apply Ret.eq
  unfold M.laws_eqInt64S
  simp only [bne_self_eq_false, Bool.false_eq_true, if_false, decide_eq_true_eq]
  refine Ret.all (l.length : Int) (fun _ => True) (by omega) (by omega) ?_ ?_
  · intro i next hi0 hi1 hp hn1
    (repeat' (first | with_reducible refine Ret.pos ‹_› ?_ | with_reducible refine Ret.neg ‹_› ?_ | with_reducible refine Ret.neg (Int.lt_irrefl _) ?_ | with_reducible refine Ret.ite (fun _ => ?_) (fun _ => ?_) | with_reducible refine Ret.idx ?_ ?_ ?_ | with_reducible refine Ret.chk ?_ ?_ | with_reducible refine hn3 ?_ | with_reducible refine hn2 ?_ | with_reducible refine hn1 ?_ | with_reducible refine hn3 _ ?_ | with_reducible refine hn2 _ ?_ | with_reducible refine hn1 _ ?_ | with_reducible refine Ret.some ?_))
    all_goals (try ((fail_if_success (with_reducible refine Ret.probe ?_)); grind))
  · intro next hp
    (repeat' (first | with_reducible refine Ret.pos ‹_› ?_ | with_reducible refine Ret.neg ‹_› ?_ | with_reducible refine Ret.neg (Int.lt_irrefl _) ?_ | with_reducible refine Ret.ite (fun _ => ?_) (fun _ => ?_) | with_reducible refine Ret.idx ?_ ?_ ?_ | with_reducible refine Ret.chk ?_ ?_ | with_reducible refine hn3 ?_ | with_reducible refine hn2 ?_ | with_reducible refine hn1 ?_ | with_reducible refine hn3 _ ?_ | with_reducible refine hn2 _ ?_ | with_reducible refine hn1 _ ?_ | with_reducible refine Ret.some ?_))
    all_goals (try ((fail_if_success (with_reducible refine Ret.probe ?_)); grind))
end Go.Gx
namespace Go.Gx
open Classical
set_option maxHeartbeats 4000000
theorem eqInt64SS_refl {l : List (List Int)} (h : Small l) (hr : ∀ r ∈ l, Small r) : M.laws_eqInt64SS l l = some true := by
  apply Ret.eq
  unfold M.laws_eqInt64SS
  simp only [bne_self_eq_false, Bool.false_eq_true, if_false, decide_eq_true_eq]
  refine Ret.all (l.length : Int) (fun _ => True) (by omega) (by omega) ?_ ?_
  · intro i next hi0 hi1 hp hn1
    have := hr _ (el_mem hi0 hi1)
    (repeat' (first | with_reducible refine Ret.pos ‹_› ?_ | with_reducible refine Ret.neg ‹_› ?_ | with_reducible refine Ret.neg (Int.lt_irrefl _) ?_ | with_reducible refine Ret.ite (fun _ => ?_) (fun _ => ?_) | with_reducible refine Ret.idx ?_ ?_ ?_ | with_reducible refine Ret.chk ?_ ?_ | with_reducible refine hn3 ?_ | with_reducible refine hn2 ?_ | with_reducible refine hn1 ?_ | with_reducible refine hn3 _ ?_ | with_reducible refine hn2 _ ?_ | with_reducible refine hn1 _ ?_ | with_reducible refine Ret.call (eqInt64S_refl ?_) ?_ | with_reducible refine Ret.some ?_))
    all_goals (try ((fail_if_success (with_reducible refine Ret.probe ?_)); grind))
  · intro next hp
    (repeat' (first | with_reducible refine Ret.pos ‹_› ?_ | with_reducible refine Ret.neg ‹_› ?_ | with_reducible refine Ret.neg (Int.lt_irrefl _) ?_ | with_reducible refine Ret.ite (fun _ => ?_) (fun _ => ?_) | with_reducible refine Ret.idx ?_ ?_ ?_ | with_reducible refine Ret.chk ?_ ?_ | with_reducible refine hn3 ?_ | with_reducible refine hn2 ?_ | with_reducible refine hn1 ?_ | with_reducible refine hn3 _ ?_ | with_reducible refine hn2 _ ?_ | with_reducible refine hn1 _ ?_ | with_reducible refine Ret.some ?_))
    all_goals (try ((fail_if_success (with_reducible refine Ret.probe ?_)); grind))
theorem eqCategory_refl {c : XCategory} (h : SmallC c) : M.laws_eqCategory c c = some true := by
  unfold M.laws_eqCategory
  rw [eqInt64S_refl h.s1, eqInt64S_refl h.s2, eqInt64S_refl h.s3, eqInt64SS_refl h.s4 h.s5]; simp
abbrev In (n : Int) (l : List Int) : Prop := ∀ i, 0 ≤ i → i < (l.length : Int) → 0 ≤ el l i ∧ el l i < n
theorem l01In_eq (a b c : Int) : M.spec_l01In a b c = some (decide (b ≤ a) && decide (a ≤ c)) := by
  unfold M.spec_l01In
  by_cases h : b ≤ a <;> simp [h]
theorem inRange_eq (a b c : Int) : M.impl_inRange a b c = some (decide (b ≤ a) && decide (a ≤ c)) := by
  unfold M.impl_inRange
  by_cases h : b ≤ a <;> simp [h]
theorem l01Map_eq {n : Int} {l : List Int} (h : Small l) : M.spec_l01Map n l = some (decide (In n l)) := by
  apply Ret.ask
  unfold M.spec_l01Map
  simp only [decide_eq_true_eq]
  refine Ret.all (l.length : Int) (fun i => 0 ≤ el l i ∧ el l i < n) (by omega) (by omega) ?_ ?_
  · intro i next hi0 hi1 hp hn1
    (repeat' (first | with_reducible refine Ret.pos ‹_› ?_ | with_reducible refine Ret.neg ‹_› ?_ | with_reducible refine Ret.neg (Int.lt_irrefl _) ?_ | with_reducible refine Ret.ite (fun _ => ?_) (fun _ => ?_) | with_reducible refine Ret.idx ?_ ?_ ?_ | with_reducible refine Ret.chk ?_ ?_ | with_reducible refine hn3 ?_ | with_reducible refine hn2 ?_ | with_reducible refine hn1 ?_ | with_reducible refine hn3 _ ?_ | with_reducible refine hn2 _ ?_ | with_reducible refine hn1 _ ?_ | with_reducible refine Ret.some ?_))
    all_goals (try ((fail_if_success (with_reducible refine Ret.probe ?_)); grind))
  · intro next hp
    (repeat' (first | with_reducible refine Ret.pos ‹_› ?_ | with_reducible refine Ret.neg ‹_› ?_ | with_reducible refine Ret.neg (Int.lt_irrefl _) ?_ | with_reducible refine Ret.ite (fun _ => ?_) (fun _ => ?_) | with_reducible refine Ret.idx ?_ ?_ ?_ | with_reducible refine Ret.chk ?_ ?_ | with_reducible refine hn3 ?_ | with_reducible refine hn2 ?_ | with_reducible refine hn1 ?_ | with_reducible refine hn3 _ ?_ | with_reducible refine hn2 _ ?_ | with_reducible refine hn1 _ ?_ | with_reducible refine Ret.some ?_))
    all_goals (try ((fail_if_success (with_reducible refine Ret.probe ?_)); grind))
theorem within_eq {n : Int} {l : List Int} (h : Small l) (h0 : -4611686018427387904 ≤ n) (h1 : n ≤ 4611686018427387904) : M.impl_within l n = some (decide (In n l)) := by
  apply Ret.ask
  unfold M.impl_within
  rw [wrap_in (by omega) (by omega)]
  simp only [decide_eq_true_eq]
  refine Ret.all (l.length : Int) (fun i => 0 ≤ el l i ∧ el l i < n) (by omega) (by omega) ?_ ?_
  · intro i next hi0 hi1 hp hn1
    (repeat' (first | with_reducible refine Ret.pos ‹_› ?_ | with_reducible refine Ret.neg ‹_› ?_ | with_reducible refine Ret.neg (Int.lt_irrefl _) ?_ | with_reducible refine Ret.ite (fun _ => ?_) (fun _ => ?_) | with_reducible refine Ret.idx ?_ ?_ ?_ | with_reducible refine Ret.chk ?_ ?_ | with_reducible refine hn3 ?_ | with_reducible refine hn2 ?_ | with_reducible refine hn1 ?_ | with_reducible refine hn3 _ ?_ | with_reducible refine hn2 _ ?_ | with_reducible refine hn1 _ ?_ | with_reducible refine Ret.call (inRange_eq _ _ _) ?_ | with_reducible refine Ret.some ?_))
    all_goals (try ((fail_if_success (with_reducible refine Ret.probe ?_)); grind))
  · intro next hp
    (repeat' (first | with_reducible refine Ret.pos ‹_› ?_ | with_reducible refine Ret.neg ‹_› ?_ | with_reducible refine Ret.neg (Int.lt_irrefl _) ?_ | with_reducible refine Ret.ite (fun _ => ?_) (fun _ => ?_) | with_reducible refine Ret.idx ?_ ?_ ?_ | with_reducible refine Ret.chk ?_ ?_ | with_reducible refine hn3 ?_ | with_reducible refine hn2 ?_ | with_reducible refine hn1 ?_ | with_reducible refine hn3 _ ?_ | with_reducible refine hn2 _ ?_ | with_reducible refine hn1 _ ?_ | with_reducible refine Ret.call (inRange_eq _ _ _) ?_ | with_reducible refine Ret.some ?_))
    all_goals (try ((fail_if_success (with_reducible refine Ret.probe ?_)); grind))
theorem l02Ends_eq {n m : Int} {l : List Int} (h : Small l) : M.spec_l02Ends l m n = some (decide ((l.length : Int) = m ∧ In n l)) := by
  apply Ret.ask
  unfold M.spec_l02Ends
  simp only [beq_iff_eq]
  (repeat' (first | with_reducible refine Ret.pos ‹_› ?_ | with_reducible refine Ret.neg ‹_› ?_ | with_reducible refine Ret.neg (Int.lt_irrefl _) ?_ | with_reducible refine Ret.ite (fun _ => ?_) (fun _ => ?_) | with_reducible refine Ret.idx ?_ ?_ ?_ | with_reducible refine Ret.chk ?_ ?_ | with_reducible refine hn3 ?_ | with_reducible refine hn2 ?_ | with_reducible refine hn1 ?_ | with_reducible refine hn3 _ ?_ | with_reducible refine hn2 _ ?_ | with_reducible refine hn1 _ ?_ | with_reducible refine Ret.call (l01Map_eq h) ?_ | with_reducible refine Ret.some ?_))
  all_goals (try ((fail_if_success (with_reducible refine Ret.probe ?_)); grind))
abbrev cmp (c : XCategory) (i j : Int) : Int := el (el c.Composites i) j
def CompOk (c : XCategory) (i j : Int) : Prop :=
  (el c.To i ≠ el c.From j → cmp c i j = -1) ∧
  (el c.To i = el c.From j → 0 ≤ cmp c i j ∧ cmp c i j < (c.From.length : Int) ∧ el c.From (cmp c i j) = el c.From i ∧ el c.To (cmp c i j) = el c.To j)
def Shape (c : XCategory) : Prop :=
  0 ≤ c.Objects ∧ c.Objects ≤ 8 ∧ (c.From.length : Int) ≤ 40 ∧ (c.To.length : Int) = (c.From.length : Int) ∧ (c.Identity.length : Int) = c.Objects ∧
  (c.Composites.length : Int) = (c.From.length : Int) ∧ In c.Objects c.From ∧ In c.Objects c.To ∧ In (c.From.length : Int) c.Identity ∧
  (∀ i, 0 ≤ i → i < c.Objects → el c.From (el c.Identity i) = i ∧ el c.To (el c.Identity i) = i) ∧
  (∀ i, 0 ≤ i → i < (c.From.length : Int) → ((el c.Composites i).length : Int) = (c.From.length : Int) ∧ ∀ j, 0 ≤ j → j < (c.From.length : Int) → CompOk c i j)
theorem IsShape_eq {c : XCategory} (h : SmallC c) : M.spec_IsShape c = some (decide (Shape c)) := by
  apply Ret.ask
  obtain ⟨s1, s2, s3, s4, s5⟩ := h
  unfold M.spec_IsShape
  simp only [decide_eq_true_eq, bne_iff_ne, ne_eq]
  (repeat' (first | with_reducible refine Ret.pos ‹_› ?_ | with_reducible refine Ret.neg ‹_› ?_ | with_reducible refine Ret.neg (Int.lt_irrefl _) ?_ | with_reducible refine Ret.ite (fun _ => ?_) (fun _ => ?_) | with_reducible refine Ret.idx ?_ ?_ ?_ | with_reducible refine Ret.chk ?_ ?_ | with_reducible refine hn3 ?_ | with_reducible refine hn2 ?_ | with_reducible refine hn1 ?_ | with_reducible refine hn3 _ ?_ | with_reducible refine hn2 _ ?_ | with_reducible refine hn1 _ ?_ | with_reducible refine Ret.call (l01In_eq _ _ _) ?_ | with_reducible refine Ret.call (l02Ends_eq ?_) ?_ | with_reducible refine Ret.call (l01Map_eq ?_) ?_ | with_reducible refine Ret.some ?_))
  all_goals (try ((fail_if_success (with_reducible refine Ret.probe ?_)); grind [Shape]))
  refine Ret.all c.Objects (fun i => el c.From (el c.Identity i) = i ∧ el c.To (el c.Identity i) = i) ?_ ?_ ?_ ?_
  · grind
  · grind
  · intro i next hi0 hi1 hp hn1
    (repeat' (first | with_reducible refine Ret.pos ‹_› ?_ | with_reducible refine Ret.neg ‹_› ?_ | with_reducible refine Ret.neg (Int.lt_irrefl _) ?_ | with_reducible refine Ret.ite (fun _ => ?_) (fun _ => ?_) | with_reducible refine Ret.idx ?_ ?_ ?_ | with_reducible refine Ret.chk ?_ ?_ | with_reducible refine hn3 ?_ | with_reducible refine hn2 ?_ | with_reducible refine hn1 ?_ | with_reducible refine hn3 _ ?_ | with_reducible refine hn2 _ ?_ | with_reducible refine hn1 _ ?_ | with_reducible refine Ret.some ?_))
    all_goals (try ((fail_if_success (with_reducible refine Ret.probe ?_)); grind [Shape]))
  · intro next hpI
    (repeat' (first | with_reducible refine Ret.pos ‹_› ?_ | with_reducible refine Ret.neg ‹_› ?_ | with_reducible refine Ret.neg (Int.lt_irrefl _) ?_ | with_reducible refine Ret.ite (fun _ => ?_) (fun _ => ?_) | with_reducible refine Ret.idx ?_ ?_ ?_ | with_reducible refine Ret.chk ?_ ?_ | with_reducible refine hn3 ?_ | with_reducible refine hn2 ?_ | with_reducible refine hn1 ?_ | with_reducible refine hn3 _ ?_ | with_reducible refine hn2 _ ?_ | with_reducible refine hn1 _ ?_ | with_reducible refine Ret.some ?_))
    all_goals (try ((fail_if_success (with_reducible refine Ret.probe ?_)); grind))
    refine Ret.all (c.From.length : Int) (fun i => ((el c.Composites i).length : Int) = (c.From.length : Int) ∧ ∀ j, 0 ≤ j → j < (c.From.length : Int) → CompOk c i j) (by omega) (by omega) ?_ ?_
    · intro i next hi0 hi1 hp hn1
      (repeat' (first | with_reducible refine Ret.pos ‹_› ?_ | with_reducible refine Ret.neg ‹_› ?_ | with_reducible refine Ret.neg (Int.lt_irrefl _) ?_ | with_reducible refine Ret.ite (fun _ => ?_) (fun _ => ?_) | with_reducible refine Ret.idx ?_ ?_ ?_ | with_reducible refine Ret.chk ?_ ?_ | with_reducible refine hn3 ?_ | with_reducible refine hn2 ?_ | with_reducible refine hn1 ?_ | with_reducible refine hn3 _ ?_ | with_reducible refine hn2 _ ?_ | with_reducible refine hn1 _ ?_ | with_reducible refine Ret.some ?_))
      all_goals (try ((fail_if_success (with_reducible refine Ret.probe ?_)); grind [Shape]))
      refine Ret.all (c.From.length : Int) (fun j => CompOk c i j) (by omega) (by omega) ?_ ?_
      · intro j next hj0 hj1 hp2 hn2
        (repeat' (first | with_reducible refine Ret.pos ‹_› ?_ | with_reducible refine Ret.neg ‹_› ?_ | with_reducible refine Ret.neg (Int.lt_irrefl _) ?_ | with_reducible refine Ret.ite (fun _ => ?_) (fun _ => ?_) | with_reducible refine Ret.idx ?_ ?_ ?_ | with_reducible refine Ret.chk ?_ ?_ | with_reducible refine hn3 ?_ | with_reducible refine hn2 ?_ | with_reducible refine hn1 ?_ | with_reducible refine hn3 _ ?_ | with_reducible refine hn2 _ ?_ | with_reducible refine hn1 _ ?_ | with_reducible refine Ret.some ?_))
        all_goals (try ((fail_if_success (with_reducible refine Ret.probe ?_)); grind [Shape, CompOk]))
      · intro next hp2
        (repeat' (first | with_reducible refine Ret.pos ‹_› ?_ | with_reducible refine Ret.neg ‹_› ?_ | with_reducible refine Ret.neg (Int.lt_irrefl _) ?_ | with_reducible refine Ret.ite (fun _ => ?_) (fun _ => ?_) | with_reducible refine Ret.idx ?_ ?_ ?_ | with_reducible refine Ret.chk ?_ ?_ | with_reducible refine hn3 ?_ | with_reducible refine hn2 ?_ | with_reducible refine hn1 ?_ | with_reducible refine hn3 _ ?_ | with_reducible refine hn2 _ ?_ | with_reducible refine hn1 _ ?_ | with_reducible refine Ret.some ?_))
        all_goals (try ((fail_if_success (with_reducible refine Ret.probe ?_)); grind))
    · intro next hp
      (repeat' (first | with_reducible refine Ret.pos ‹_› ?_ | with_reducible refine Ret.neg ‹_› ?_ | with_reducible refine Ret.neg (Int.lt_irrefl _) ?_ | with_reducible refine Ret.ite (fun _ => ?_) (fun _ => ?_) | with_reducible refine Ret.idx ?_ ?_ ?_ | with_reducible refine Ret.chk ?_ ?_ | with_reducible refine hn3 ?_ | with_reducible refine hn2 ?_ | with_reducible refine hn1 ?_ | with_reducible refine hn3 _ ?_ | with_reducible refine hn2 _ ?_ | with_reducible refine hn1 _ ?_ | with_reducible refine Ret.some ?_))
      all_goals (try ((fail_if_success (with_reducible refine Ret.probe ?_)); grind [Shape]))
theorem ends_eq {c : XCategory} {y : Int} (h0 : 0 ≤ y) (h1 : y < (c.From.length : Int)) (h2 : y < (c.To.length : Int)) : M.iC_ends c y = some ⟨el c.From y, el c.To y⟩ := by
  unfold M.iC_ends
  rw [idx_el h0 h1, idx_el h0 h2]; rfl
theorem isShape_eq {c : XCategory} (h : SmallC c) : M.iC_isShape c = some (decide (Shape c)) := by
  apply Ret.ask
  obtain ⟨s1, s2, s3, s4, s5⟩ := h
  unfold M.iC_isShape M.iC_arrows
  have hw : IntKind.i64.wrap ((c.From.length : Int) - 1) = (c.From.length : Int) - 1 := wrap_in (by omega) (by omega)
  simp only [decide_eq_true_eq, bne_iff_ne, ne_eq, Option.bind_some, hw]
  (repeat' (first | with_reducible refine Ret.pos ‹_› ?_ | with_reducible refine Ret.neg ‹_› ?_ | with_reducible refine Ret.neg (Int.lt_irrefl _) ?_ | with_reducible refine Ret.ite (fun _ => ?_) (fun _ => ?_) | with_reducible refine Ret.idx ?_ ?_ ?_ | with_reducible refine Ret.chk ?_ ?_ | with_reducible refine hn3 ?_ | with_reducible refine hn2 ?_ | with_reducible refine hn1 ?_ | with_reducible refine hn3 _ ?_ | with_reducible refine hn2 _ ?_ | with_reducible refine hn1 _ ?_ | with_reducible refine Ret.call (inRange_eq _ _ _) ?_ | with_reducible refine Ret.call (within_eq ?_ ?_ ?_) ?_ | with_reducible refine Ret.some ?_))
  all_goals (try ((fail_if_success (with_reducible refine Ret.probe ?_)); grind [Shape]))
  refine Ret.all (c.Identity.length : Int) (fun i => el c.From (el c.Identity i) = i ∧ el c.To (el c.Identity i) = i) ?_ ?_ ?_ ?_
  · grind
  · grind
  · intro i next hi0 hi1 hp hn1
    (repeat' (first | with_reducible refine Ret.pos ‹_› ?_ | with_reducible refine Ret.neg ‹_› ?_ | with_reducible refine Ret.neg (Int.lt_irrefl _) ?_ | with_reducible refine Ret.ite (fun _ => ?_) (fun _ => ?_) | with_reducible refine Ret.idx ?_ ?_ ?_ | with_reducible refine Ret.chk ?_ ?_ | with_reducible refine hn3 ?_ | with_reducible refine hn2 ?_ | with_reducible refine hn1 ?_ | with_reducible refine hn3 _ ?_ | with_reducible refine hn2 _ ?_ | with_reducible refine hn1 _ ?_ | with_reducible refine Ret.call (ends_eq ?_ ?_ ?_) ?_ | with_reducible refine Ret.some ?_))
    all_goals (try ((fail_if_success (with_reducible refine Ret.probe ?_)); grind [Shape]))
  · intro next hpI
    (repeat' (first | with_reducible refine Ret.pos ‹_› ?_ | with_reducible refine Ret.neg ‹_› ?_ | with_reducible refine Ret.neg (Int.lt_irrefl _) ?_ | with_reducible refine Ret.ite (fun _ => ?_) (fun _ => ?_) | with_reducible refine Ret.idx ?_ ?_ ?_ | with_reducible refine Ret.chk ?_ ?_ | with_reducible refine hn3 ?_ | with_reducible refine hn2 ?_ | with_reducible refine hn1 ?_ | with_reducible refine hn3 _ ?_ | with_reducible refine hn2 _ ?_ | with_reducible refine hn1 _ ?_ | with_reducible refine Ret.some ?_))
    all_goals (try ((fail_if_success (with_reducible refine Ret.probe ?_)); grind))
    refine Ret.all (c.Composites.length : Int) (fun i => ((el c.Composites i).length : Int) = (c.From.length : Int) ∧ ∀ j, 0 ≤ j → j < (c.From.length : Int) → CompOk c i j) (by omega) (by omega) ?_ ?_
    · intro i next hi0 hi1 hp hn1
      (repeat' (first | with_reducible refine Ret.pos ‹_› ?_ | with_reducible refine Ret.neg ‹_› ?_ | with_reducible refine Ret.neg (Int.lt_irrefl _) ?_ | with_reducible refine Ret.ite (fun _ => ?_) (fun _ => ?_) | with_reducible refine Ret.idx ?_ ?_ ?_ | with_reducible refine Ret.chk ?_ ?_ | with_reducible refine hn3 ?_ | with_reducible refine hn2 ?_ | with_reducible refine hn1 ?_ | with_reducible refine hn3 _ ?_ | with_reducible refine hn2 _ ?_ | with_reducible refine hn1 _ ?_ | with_reducible refine Ret.some ?_))
      all_goals (try ((fail_if_success (with_reducible refine Ret.probe ?_)); grind [Shape]))
      refine Ret.all ((el c.Composites i).length : Int) (fun j => CompOk c i j) (by omega) (by omega) ?_ ?_
      · intro j next hj0 hj1 hp2 hn2
        (repeat' (first | with_reducible refine Ret.pos ‹_› ?_ | with_reducible refine Ret.neg ‹_› ?_ | with_reducible refine Ret.neg (Int.lt_irrefl _) ?_ | with_reducible refine Ret.ite (fun _ => ?_) (fun _ => ?_) | with_reducible refine Ret.idx ?_ ?_ ?_ | with_reducible refine Ret.chk ?_ ?_ | with_reducible refine hn3 ?_ | with_reducible refine hn2 ?_ | with_reducible refine hn1 ?_ | with_reducible refine hn3 _ ?_ | with_reducible refine hn2 _ ?_ | with_reducible refine hn1 _ ?_ | with_reducible refine Ret.call (inRange_eq _ _ _) ?_ | with_reducible refine Ret.call (ends_eq ?_ ?_ ?_) ?_ | with_reducible refine Ret.some ?_))
        all_goals (try ((fail_if_success (with_reducible refine Ret.probe ?_)); grind [Shape, CompOk]))
      · intro next hp2
        (repeat' (first | with_reducible refine Ret.pos ‹_› ?_ | with_reducible refine Ret.neg ‹_› ?_ | with_reducible refine Ret.neg (Int.lt_irrefl _) ?_ | with_reducible refine Ret.ite (fun _ => ?_) (fun _ => ?_) | with_reducible refine Ret.idx ?_ ?_ ?_ | with_reducible refine Ret.chk ?_ ?_ | with_reducible refine hn3 ?_ | with_reducible refine hn2 ?_ | with_reducible refine hn1 ?_ | with_reducible refine hn3 _ ?_ | with_reducible refine hn2 _ ?_ | with_reducible refine hn1 _ ?_ | with_reducible refine Ret.some ?_))
        all_goals (try ((fail_if_success (with_reducible refine Ret.probe ?_)); grind))
    · intro next hp
      (repeat' (first | with_reducible refine Ret.pos ‹_› ?_ | with_reducible refine Ret.neg ‹_› ?_ | with_reducible refine Ret.neg (Int.lt_irrefl _) ?_ | with_reducible refine Ret.ite (fun _ => ?_) (fun _ => ?_) | with_reducible refine Ret.idx ?_ ?_ ?_ | with_reducible refine Ret.chk ?_ ?_ | with_reducible refine hn3 ?_ | with_reducible refine hn2 ?_ | with_reducible refine hn1 ?_ | with_reducible refine hn3 _ ?_ | with_reducible refine hn2 _ ?_ | with_reducible refine hn1 _ ?_ | with_reducible refine Ret.some ?_))
      rename_i b1 b2 b3 b4 b5 b6 b7 b8 nx
      simp only [Bool.and_eq_true, decide_eq_true_eq, Decidable.not_not] at b1 b2 b3 b4 b5 b6 b7 b8
      exact ⟨fun _ => ⟨b1.1, b1.2, by omega, b3, b6, b8, b4, b5, b7, fun i h0 h1 => hpI i h0 (by omega), fun i h0 h1 => hp i h0 (by omega)⟩, fun _ => rfl⟩
end Go.Gx
namespace Go.Gx
open Classical
set_option maxHeartbeats 4000000
def NoFault (c : XCategory) : Prop :=
  (∀ f, 0 ≤ f → f < (c.From.length : Int) → cmp c (el c.Identity (el c.From f)) f = f ∧ cmp c f (el c.Identity (el c.To f)) = f) ∧
  (∀ f g h, 0 ≤ f → f < (c.From.length : Int) → 0 ≤ g → g < (c.From.length : Int) → 0 ≤ h → h < (c.From.length : Int) → el c.To f = el c.From g → el c.To g = el c.From h →
    cmp c (cmp c f g) h = cmp c f (cmp c g h))
structure Shp (c : XCategory) : Prop where
  n0 : 0 ≤ c.Objects
  n8 : c.Objects ≤ 8
  m40 : (c.From.length : Int) ≤ 40
  lto : (c.To.length : Int) = (c.From.length : Int)
  lid : (c.Identity.length : Int) = c.Objects
  lco : (c.Composites.length : Int) = (c.From.length : Int)
  from_in : ∀ i, 0 ≤ i → i < (c.From.length : Int) → 0 ≤ el c.From i ∧ el c.From i < c.Objects
  to_in : ∀ i, 0 ≤ i → i < (c.From.length : Int) → 0 ≤ el c.To i ∧ el c.To i < c.Objects
  id_in : ∀ i, 0 ≤ i → i < c.Objects → 0 ≤ el c.Identity i ∧ el c.Identity i < (c.From.length : Int)
  id_from : ∀ i, 0 ≤ i → i < c.Objects → el c.From (el c.Identity i) = i
  id_to : ∀ i, 0 ≤ i → i < c.Objects → el c.To (el c.Identity i) = i
  row : ∀ i, 0 ≤ i → i < (c.From.length : Int) → ((el c.Composites i).length : Int) = (c.From.length : Int)
  no : ∀ i j, 0 ≤ i → i < (c.From.length : Int) → 0 ≤ j → j < (c.From.length : Int) → el c.To i ≠ el c.From j → cmp c i j = -1
  yes : ∀ i j, 0 ≤ i → i < (c.From.length : Int) → 0 ≤ j → j < (c.From.length : Int) → el c.To i = el c.From j → 0 ≤ cmp c i j ∧ cmp c i j < (c.From.length : Int)
  cfrom : ∀ i j, 0 ≤ i → i < (c.From.length : Int) → 0 ≤ j → j < (c.From.length : Int) → el c.To i = el c.From j → el c.From (cmp c i j) = el c.From i
  cto : ∀ i j, 0 ≤ i → i < (c.From.length : Int) → 0 ≤ j → j < (c.From.length : Int) → el c.To i = el c.From j → el c.To (cmp c i j) = el c.To j
theorem Shape.shp {c : XCategory} (h : Shape c) : Shp c := by
  obtain ⟨h1, h2, h3, h4, h5, h6, h7, h8, h9, h10, h11⟩ := h
  refine ⟨h1, h2, h3, h4, h5, h6, h7, fun i h0 hi => h8 i h0 (by omega), fun i h0 hi => h9 i h0 (by omega), fun i h0 hi => (h10 i h0 hi).1, fun i h0 hi => (h10 i h0 hi).2, fun i h0 hi => (h11 i h0 hi).1, ?_, ?_, ?_, ?_⟩
  · intro i j hi0 hi1 hj0 hj1 hne
    exact ((h11 i hi0 hi1).2 j hj0 hj1).1 hne
  · intro i j hi0 hi1 hj0 hj1 he
    have := ((h11 i hi0 hi1).2 j hj0 hj1).2 he
    exact ⟨this.1, this.2.1⟩
  · intro i j hi0 hi1 hj0 hj1 he
    exact (((h11 i hi0 hi1).2 j hj0 hj1).2 he).2.2.1
  · intro i j hi0 hi1 hj0 hj1 he
    exact (((h11 i hi0 hi1).2 j hj0 hj1).2 he).2.2.2
theorem then_eq {c : XCategory} {i j : Int} (h0 : 0 ≤ i) (h1 : i < (c.Composites.length : Int)) (h2 : 0 ≤ j) (h3 : j < ((el c.Composites i).length : Int)) : M.iC_then c i j = some (cmp c i j) := by
  unfold M.iC_then
  rw [idx_el h0 h1]
  show (idx (el c.Composites i) j).bind _ = _
  rw [idx_el h2 h3]; rfl
theorem l02Fault_r {c : XCategory} (h : Shp c) : Ret (M.spec_l02Fault c) fun r => r.1 = 0 ↔ NoFault c := by
  obtain ⟨h1, h2, h3, h4, h5, h6, h7, h8, h9, h10, h11, h12, h13, h14, h15, h16⟩ := h
  unfold M.spec_l02Fault
  simp only [decide_eq_true_eq, beq_iff_eq, bne_iff_ne, ne_eq]
  refine Ret.all (c.From.length : Int) (fun f => cmp c (el c.Identity (el c.From f)) f = f ∧ cmp c f (el c.Identity (el c.To f)) = f) (by omega) (by omega) ?_ ?_
  · intro i next hi0 hi1 hp hn1
    have := h7 i hi0 hi1
    have := h8 i hi0 hi1
    have hno : ¬ (cmp c (el c.Identity (el c.From i)) i = i ∧ cmp c i (el c.Identity (el c.To i)) = i) → ¬ NoFault c := fun hx hN => hx (hN.1 i hi0 hi1)
    (repeat' (first | with_reducible refine Ret.pos ‹_› ?_ | with_reducible refine Ret.neg ‹_› ?_ | with_reducible refine Ret.neg (Int.lt_irrefl _) ?_ | with_reducible refine Ret.ite (fun _ => ?_) (fun _ => ?_) | with_reducible refine Ret.idx ?_ ?_ ?_ | with_reducible refine Ret.chk ?_ ?_ | with_reducible refine hn3 ?_ | with_reducible refine hn2 ?_ | with_reducible refine hn1 ?_ | with_reducible refine hn3 _ ?_ | with_reducible refine hn2 _ ?_ | with_reducible refine hn1 _ ?_ | with_reducible refine Ret.some ?_))
    all_goals (try ((fail_if_success (with_reducible refine Ret.probe ?_)); grind))
  · intro next hpI
    (repeat' (first | with_reducible refine Ret.pos ‹_› ?_ | with_reducible refine Ret.neg ‹_› ?_ | with_reducible refine Ret.neg (Int.lt_irrefl _) ?_ | with_reducible refine Ret.ite (fun _ => ?_) (fun _ => ?_) | with_reducible refine Ret.idx ?_ ?_ ?_ | with_reducible refine Ret.chk ?_ ?_ | with_reducible refine hn3 ?_ | with_reducible refine hn2 ?_ | with_reducible refine hn1 ?_ | with_reducible refine hn3 _ ?_ | with_reducible refine hn2 _ ?_ | with_reducible refine hn1 _ ?_ | with_reducible refine Ret.some ?_))
    all_goals (try ((fail_if_success (with_reducible refine Ret.probe ?_)); grind))
    refine Ret.all (c.From.length : Int) (fun f => ∀ g h, 0 ≤ g → g < (c.From.length : Int) → 0 ≤ h → h < (c.From.length : Int) → el c.To f = el c.From g → el c.To g = el c.From h → cmp c (cmp c f g) h = cmp c f (cmp c g h)) (by omega) (by omega) ?_ ?_
    · intro f next hf0 hf1 hp hn1
      (repeat' (first | with_reducible refine Ret.pos ‹_› ?_ | with_reducible refine Ret.neg ‹_› ?_ | with_reducible refine Ret.neg (Int.lt_irrefl _) ?_ | with_reducible refine Ret.ite (fun _ => ?_) (fun _ => ?_) | with_reducible refine Ret.idx ?_ ?_ ?_ | with_reducible refine Ret.chk ?_ ?_ | with_reducible refine hn3 ?_ | with_reducible refine hn2 ?_ | with_reducible refine hn1 ?_ | with_reducible refine hn3 _ ?_ | with_reducible refine hn2 _ ?_ | with_reducible refine hn1 _ ?_ | with_reducible refine Ret.some ?_))
      all_goals (try ((fail_if_success (with_reducible refine Ret.probe ?_)); grind))
      refine Ret.all (c.From.length : Int) (fun g => ∀ h, 0 ≤ h → h < (c.From.length : Int) → el c.To f = el c.From g → el c.To g = el c.From h → cmp c (cmp c f g) h = cmp c f (cmp c g h)) (by omega) (by omega) ?_ ?_
      · intro g next hg0 hg1 hp2 hn2
        (repeat' (first | with_reducible refine Ret.pos ‹_› ?_ | with_reducible refine Ret.neg ‹_› ?_ | with_reducible refine Ret.neg (Int.lt_irrefl _) ?_ | with_reducible refine Ret.ite (fun _ => ?_) (fun _ => ?_) | with_reducible refine Ret.idx ?_ ?_ ?_ | with_reducible refine Ret.chk ?_ ?_ | with_reducible refine hn3 ?_ | with_reducible refine hn2 ?_ | with_reducible refine hn1 ?_ | with_reducible refine hn3 _ ?_ | with_reducible refine hn2 _ ?_ | with_reducible refine hn1 _ ?_ | with_reducible refine Ret.some ?_))
        all_goals (try ((fail_if_success (with_reducible refine Ret.probe ?_)); grind))
        refine Ret.all (c.From.length : Int) (fun h => el c.To f = el c.From g → el c.To g = el c.From h → cmp c (cmp c f g) h = cmp c f (cmp c g h)) (by omega) (by omega) ?_ ?_
        · intro h next hh0 hh1 hp3 hn3
          have hno : ¬ (el c.To f = el c.From g → el c.To g = el c.From h → cmp c (cmp c f g) h = cmp c f (cmp c g h)) → ¬ NoFault c := fun hx hN => hx (hN.2 f g h hf0 hf1 hg0 hg1 hh0 hh1)
          (repeat' (first | with_reducible refine Ret.pos ‹_› ?_ | with_reducible refine Ret.neg ‹_› ?_ | with_reducible refine Ret.neg (Int.lt_irrefl _) ?_ | with_reducible refine Ret.ite (fun _ => ?_) (fun _ => ?_) | with_reducible refine Ret.idx ?_ ?_ ?_ | with_reducible refine Ret.chk ?_ ?_ | with_reducible refine hn3 ?_ | with_reducible refine hn2 ?_ | with_reducible refine hn1 ?_ | with_reducible refine hn3 _ ?_ | with_reducible refine hn2 _ ?_ | with_reducible refine hn1 _ ?_ | with_reducible refine Ret.some ?_))
          all_goals (try ((fail_if_success (with_reducible refine Ret.probe ?_)); grind))
        · intro next hp3
          (repeat' (first | with_reducible refine Ret.pos ‹_› ?_ | with_reducible refine Ret.neg ‹_› ?_ | with_reducible refine Ret.neg (Int.lt_irrefl _) ?_ | with_reducible refine Ret.ite (fun _ => ?_) (fun _ => ?_) | with_reducible refine Ret.idx ?_ ?_ ?_ | with_reducible refine Ret.chk ?_ ?_ | with_reducible refine hn3 ?_ | with_reducible refine hn2 ?_ | with_reducible refine hn1 ?_ | with_reducible refine hn3 _ ?_ | with_reducible refine hn2 _ ?_ | with_reducible refine hn1 _ ?_ | with_reducible refine Ret.some ?_))
          all_goals (try ((fail_if_success (with_reducible refine Ret.probe ?_)); grind))
      · intro next hp2
        (repeat' (first | with_reducible refine Ret.pos ‹_› ?_ | with_reducible refine Ret.neg ‹_› ?_ | with_reducible refine Ret.neg (Int.lt_irrefl _) ?_ | with_reducible refine Ret.ite (fun _ => ?_) (fun _ => ?_) | with_reducible refine Ret.idx ?_ ?_ ?_ | with_reducible refine Ret.chk ?_ ?_ | with_reducible refine hn3 ?_ | with_reducible refine hn2 ?_ | with_reducible refine hn1 ?_ | with_reducible refine hn3 _ ?_ | with_reducible refine hn2 _ ?_ | with_reducible refine hn1 _ ?_ | with_reducible refine Ret.some ?_))
        all_goals (try ((fail_if_success (with_reducible refine Ret.probe ?_)); grind))
    · intro next hp
      (repeat' (first | with_reducible refine Ret.pos ‹_› ?_ | with_reducible refine Ret.neg ‹_› ?_ | with_reducible refine Ret.neg (Int.lt_irrefl _) ?_ | with_reducible refine Ret.ite (fun _ => ?_) (fun _ => ?_) | with_reducible refine Ret.idx ?_ ?_ ?_ | with_reducible refine Ret.chk ?_ ?_ | with_reducible refine hn3 ?_ | with_reducible refine hn2 ?_ | with_reducible refine hn1 ?_ | with_reducible refine hn3 _ ?_ | with_reducible refine hn2 _ ?_ | with_reducible refine hn1 _ ?_ | with_reducible refine Ret.some ?_))
      exact ⟨fun _ => ⟨hpI, fun f g h a1 a2 a3 a4 a5 a6 => hp f a1 a2 g h a3 a4 a5 a6⟩, fun _ => rfl⟩
theorem fault_r {c : XCategory} (h : Shp c) : Ret (M.iC_fault c) fun r => r.1 = 0 ↔ NoFault c := by
  obtain ⟨h1, h2, h3, h4, h5, h6, h7, h8, h9, h10, h11, h12, h13, h14, h15, h16⟩ := h
  unfold M.iC_fault M.iC_arrows
  simp only [decide_eq_true_eq, bne_iff_ne, ne_eq, Option.bind_some]
  refine Ret.all (c.From.length : Int) (fun f => cmp c (el c.Identity (el c.From f)) f = f ∧ cmp c f (el c.Identity (el c.To f)) = f) (by omega) (by omega) ?_ ?_
  · intro i next hi0 hi1 hp hn1
    have := h7 i hi0 hi1
    have := h8 i hi0 hi1
    have hno : ¬ (cmp c (el c.Identity (el c.From i)) i = i ∧ cmp c i (el c.Identity (el c.To i)) = i) → ¬ NoFault c := fun hx hN => hx (hN.1 i hi0 hi1)
    (repeat' (first | with_reducible refine Ret.pos ‹_› ?_ | with_reducible refine Ret.neg ‹_› ?_ | with_reducible refine Ret.neg (Int.lt_irrefl _) ?_ | with_reducible refine Ret.ite (fun _ => ?_) (fun _ => ?_) | with_reducible refine Ret.idx ?_ ?_ ?_ | with_reducible refine Ret.chk ?_ ?_ | with_reducible refine hn3 ?_ | with_reducible refine hn2 ?_ | with_reducible refine hn1 ?_ | with_reducible refine hn3 _ ?_ | with_reducible refine hn2 _ ?_ | with_reducible refine hn1 _ ?_ | with_reducible refine Ret.call (then_eq ?_ ?_ ?_ ?_) ?_ | with_reducible refine Ret.some ?_))
    all_goals (try ((fail_if_success (with_reducible refine Ret.probe ?_)); grind))
  · intro next hpI
    (repeat' (first | with_reducible refine Ret.pos ‹_› ?_ | with_reducible refine Ret.neg ‹_› ?_ | with_reducible refine Ret.neg (Int.lt_irrefl _) ?_ | with_reducible refine Ret.ite (fun _ => ?_) (fun _ => ?_) | with_reducible refine Ret.idx ?_ ?_ ?_ | with_reducible refine Ret.chk ?_ ?_ | with_reducible refine hn3 ?_ | with_reducible refine hn2 ?_ | with_reducible refine hn1 ?_ | with_reducible refine hn3 _ ?_ | with_reducible refine hn2 _ ?_ | with_reducible refine hn1 _ ?_ | with_reducible refine Ret.some ?_))
    all_goals (try ((fail_if_success (with_reducible refine Ret.probe ?_)); grind))
    refine Ret.all (c.From.length : Int) (fun f => ∀ g h, 0 ≤ g → g < (c.From.length : Int) → 0 ≤ h → h < (c.From.length : Int) → el c.To f = el c.From g → el c.To g = el c.From h → cmp c (cmp c f g) h = cmp c f (cmp c g h)) (by omega) (by omega) ?_ ?_
    · intro f next hf0 hf1 hp hn1
      (repeat' (first | with_reducible refine Ret.pos ‹_› ?_ | with_reducible refine Ret.neg ‹_› ?_ | with_reducible refine Ret.neg (Int.lt_irrefl _) ?_ | with_reducible refine Ret.ite (fun _ => ?_) (fun _ => ?_) | with_reducible refine Ret.idx ?_ ?_ ?_ | with_reducible refine Ret.chk ?_ ?_ | with_reducible refine hn3 ?_ | with_reducible refine hn2 ?_ | with_reducible refine hn1 ?_ | with_reducible refine hn3 _ ?_ | with_reducible refine hn2 _ ?_ | with_reducible refine hn1 _ ?_ | with_reducible refine Ret.some ?_))
      all_goals (try ((fail_if_success (with_reducible refine Ret.probe ?_)); grind))
      refine Ret.all (c.From.length : Int) (fun g => ∀ h, 0 ≤ h → h < (c.From.length : Int) → el c.To f = el c.From g → el c.To g = el c.From h → cmp c (cmp c f g) h = cmp c f (cmp c g h)) (by omega) (by omega) ?_ ?_
      · intro g next hg0 hg1 hp2 hn2
        have := h13 f g hf0 hf1 hg0 hg1
        have := h14 f g hf0 hf1 hg0 hg1
        (repeat' (first | with_reducible refine Ret.pos ‹_› ?_ | with_reducible refine Ret.neg ‹_› ?_ | with_reducible refine Ret.neg (Int.lt_irrefl _) ?_ | with_reducible refine Ret.ite (fun _ => ?_) (fun _ => ?_) | with_reducible refine Ret.idx ?_ ?_ ?_ | with_reducible refine Ret.chk ?_ ?_ | with_reducible refine hn3 ?_ | with_reducible refine hn2 ?_ | with_reducible refine hn1 ?_ | with_reducible refine hn3 _ ?_ | with_reducible refine hn2 _ ?_ | with_reducible refine hn1 _ ?_ | with_reducible refine Ret.call (then_eq ?_ ?_ ?_ ?_) ?_ | with_reducible refine Ret.some ?_))
        all_goals (try ((fail_if_success (with_reducible refine Ret.probe ?_)); grind))
        refine Ret.all (c.From.length : Int) (fun h => el c.To f = el c.From g → el c.To g = el c.From h → cmp c (cmp c f g) h = cmp c f (cmp c g h)) (by omega) (by omega) ?_ ?_
        · intro h next hh0 hh1 hp3 hn3
          have := h13 g h hg0 hg1 hh0 hh1
          have := h14 g h hg0 hg1 hh0 hh1
          have hno : ¬ (el c.To f = el c.From g → el c.To g = el c.From h → cmp c (cmp c f g) h = cmp c f (cmp c g h)) → ¬ NoFault c := fun hx hN => hx (hN.2 f g h hf0 hf1 hg0 hg1 hh0 hh1)
          (repeat' (first | with_reducible refine Ret.pos ‹_› ?_ | with_reducible refine Ret.neg ‹_› ?_ | with_reducible refine Ret.neg (Int.lt_irrefl _) ?_ | with_reducible refine Ret.ite (fun _ => ?_) (fun _ => ?_) | with_reducible refine Ret.idx ?_ ?_ ?_ | with_reducible refine Ret.chk ?_ ?_ | with_reducible refine hn3 ?_ | with_reducible refine hn2 ?_ | with_reducible refine hn1 ?_ | with_reducible refine hn3 _ ?_ | with_reducible refine hn2 _ ?_ | with_reducible refine hn1 _ ?_ | with_reducible refine Ret.call (then_eq ?_ ?_ ?_ ?_) ?_ | with_reducible refine Ret.some ?_))
          all_goals (try ((fail_if_success (with_reducible refine Ret.probe ?_)); grind))
        · intro next hp3
          (repeat' (first | with_reducible refine Ret.pos ‹_› ?_ | with_reducible refine Ret.neg ‹_› ?_ | with_reducible refine Ret.neg (Int.lt_irrefl _) ?_ | with_reducible refine Ret.ite (fun _ => ?_) (fun _ => ?_) | with_reducible refine Ret.idx ?_ ?_ ?_ | with_reducible refine Ret.chk ?_ ?_ | with_reducible refine hn3 ?_ | with_reducible refine hn2 ?_ | with_reducible refine hn1 ?_ | with_reducible refine hn3 _ ?_ | with_reducible refine hn2 _ ?_ | with_reducible refine hn1 _ ?_ | with_reducible refine Ret.some ?_))
          all_goals (try ((fail_if_success (with_reducible refine Ret.probe ?_)); grind))
      · intro next hp2
        (repeat' (first | with_reducible refine Ret.pos ‹_› ?_ | with_reducible refine Ret.neg ‹_› ?_ | with_reducible refine Ret.neg (Int.lt_irrefl _) ?_ | with_reducible refine Ret.ite (fun _ => ?_) (fun _ => ?_) | with_reducible refine Ret.idx ?_ ?_ ?_ | with_reducible refine Ret.chk ?_ ?_ | with_reducible refine hn3 ?_ | with_reducible refine hn2 ?_ | with_reducible refine hn1 ?_ | with_reducible refine hn3 _ ?_ | with_reducible refine hn2 _ ?_ | with_reducible refine hn1 _ ?_ | with_reducible refine Ret.some ?_))
        all_goals (try ((fail_if_success (with_reducible refine Ret.probe ?_)); grind))
    · intro next hp
      (repeat' (first | with_reducible refine Ret.pos ‹_› ?_ | with_reducible refine Ret.neg ‹_› ?_ | with_reducible refine Ret.neg (Int.lt_irrefl _) ?_ | with_reducible refine Ret.ite (fun _ => ?_) (fun _ => ?_) | with_reducible refine Ret.idx ?_ ?_ ?_ | with_reducible refine Ret.chk ?_ ?_ | with_reducible refine hn3 ?_ | with_reducible refine hn2 ?_ | with_reducible refine hn1 ?_ | with_reducible refine hn3 _ ?_ | with_reducible refine hn2 _ ?_ | with_reducible refine hn1 _ ?_ | with_reducible refine Ret.some ?_))
      exact ⟨fun _ => ⟨hpI, fun f g h a1 a2 a3 a4 a5 a6 => hp f a1 a2 g h a3 a4 a5 a6⟩, fun _ => rfl⟩
def IsCat (c : XCategory) : Prop := Shape c ∧ NoFault c
theorem l02Is_eq {c : XCategory} (h : SmallC c) : M.spec_l02Is c = some (decide (IsCat c)) := by
  apply Ret.ask
  unfold M.spec_l02Is
  refine Ret.call (IsShape_eq h) ?_
  simp only [decide_eq_true_eq]
  refine Ret.ite (fun hs => ?_) (fun hs => ?_)
  · refine Ret.bind (l02Fault_r hs.shp) fun r hr => Ret.some ?_
    rw [beq_iff_eq, hr]
    exact ⟨fun x => ⟨hs, x⟩, fun x => x.2⟩
  · refine Ret.some ?_
    simp only [Bool.false_eq_true, false_iff]
    exact fun x => hs x.1
theorem isCategory_eq {c : XCategory} (h : SmallC c) : M.iC_isCategory c = some (decide (IsCat c)) := by
  apply Ret.ask
  unfold M.iC_isCategory
  refine Ret.call (isShape_eq h) ?_
  simp only [decide_eq_true_eq]
  refine Ret.ite (fun hs => ?_) (fun hs => ?_)
  · refine Ret.bind (fault_r hs.shp) fun r hr => Ret.some ?_
    rw [beq_iff_eq, hr]
    exact ⟨fun x => ⟨hs, x⟩, fun x => x.2⟩
  · refine Ret.some ?_
    simp only [Bool.false_eq_true, false_iff]
    exact fun x => hs x.1
end Go.Gx
namespace Go.Gx
open Classical
set_option maxHeartbeats 4000000
structure FunOk (f : XFunctor) : Prop where
  lo : (f.Objects.length : Int) = f.Source.Objects
  la : (f.Arrows.length : Int) = (f.Source.From.length : Int)
  ino : In f.Target.Objects f.Objects
  ina : In (f.Target.From.length : Int) f.Arrows
  afrom : ∀ a, 0 ≤ a → a < (f.Source.From.length : Int) → el f.Target.From (el f.Arrows a) = el f.Objects (el f.Source.From a)
  ato : ∀ a, 0 ≤ a → a < (f.Source.From.length : Int) → el f.Target.To (el f.Arrows a) = el f.Objects (el f.Source.To a)
  aid : ∀ x, 0 ≤ x → x < f.Source.Objects → el f.Arrows (el f.Source.Identity x) = el f.Target.Identity (el f.Objects x)
  acmp : ∀ a b, 0 ≤ a → a < (f.Source.From.length : Int) → 0 ≤ b → b < (f.Source.From.length : Int) → el f.Source.To a = el f.Source.From b →
    el f.Arrows (cmp f.Source a b) = cmp f.Target (el f.Arrows a) (el f.Arrows b)
end Go.Gx
namespace Go.Gx
set_option maxHeartbeats 1000000
theorem fitsC {c : XCategory} (h : R.XCategory c) : FitsC c := ⟨h.2.1.1, h.2.2.1.1, h.2.2.2.1.1, h.2.2.2.2.1, fun r hr => (h.2.2.2.2.2 r hr).1⟩
theorem zeroC_small : SmallC ⟨0, [], [], [], []⟩ := ⟨by simp, by simp, by simp, by simp, by simp⟩
theorem table_eq {c : XCategory} {g : Int → Int → Option Int} {v : Int → Int → Int} (hm : (c.From.length : Int) ≤ 40) (ht : (c.To.length : Int) = (c.From.length : Int))
    (hg : ∀ i j, 0 ≤ i → i < (c.From.length : Int) → 0 ≤ j → j < (c.From.length : Int) → el c.To i = el c.From j → g i j = some (v i j)) :
    M.iC_table c g = some ⟨c.Objects, c.From, c.To, c.Identity, tab (c.From.length : Int) fun i => tab (c.From.length : Int) fun j => if el c.To i = el c.From j then v i j else -1⟩ := by
  apply Ret.eq
  unfold M.iC_table M.iC_arrows
  simp only [Option.bind_some]
  refine Ret.chk ⟨by omega, by unfold lim; omega⟩ ?_
  simp only [List.length_replicate]
  have e1 : (((c.From.length : Int).toNat : Nat) : Int) = (c.From.length : Int) := by omega
  simp only [e1]
  refine Ret.acc (c.From.length : Int) (fun i a => a = tab (c.From.length : Int) fun k => if k < i then (tab (c.From.length : Int) fun j => if el c.To k = el c.From j then v k j else -1) else []) (by omega) (by omega) ?_ ?_ ?_
  · rw [rep_tab]; apply tab_congr; intro j h0 h1; rw [if_neg (by omega)]
  · rintro i a next hi0 hi1 rfl hn1
    dsimp only
    simp only [decide_eq_true_eq]
    rw [if_pos hi1, set_tab hi0, rep_tab]
    refine Ret.idx hi0 (by rw [tab_length]; omega) ?_
    refine Ret.idx hi0 (by rw [tab_length]; omega) ?_
    rw [el_tab hi0 hi1]
    simp only [if_true, tab_length, e1]
    refine Ret.acc (c.From.length : Int) (fun j a => a = tab (c.From.length : Int) fun k => if k = i then (tab (c.From.length : Int) fun l => if l < j then (if el c.To k = el c.From l then v k l else -1) else 0) else if k < i then (tab (c.From.length : Int) fun j => if el c.To k = el c.From j then v k j else -1) else []) (by omega) (by omega) ?_ ?_ ?_
    · apply tab_congr
      intro k hk0 hk1
      by_cases hk : k = i
      · simp only [hk, if_true]
        apply tab_congr; intro l hl0 hl1; rw [if_neg (by omega)]
      · simp only [if_neg hk]
    · rintro j a next' hj0 hj1 rfl hn2
      dsimp only
      rw [if_pos hj1]
      refine Ret.idx hi0 (by rw [tab_length]; omega) ?_
      rw [el_tab hi0 hi1]
      simp only [if_true]
      refine Ret.idx hj0 (by rw [tab_length]; omega) ?_
      refine Ret.idx hi0 (by omega) (Ret.idx hj0 hj1 ?_)
      refine Ret.ite (fun hb => ?_) (fun hb => ?_)
      · have hb' : el c.To i = el c.From j := by simpa using hb
        simp only [set_tab hi0, set_tab hj0]
        refine Ret.idx hi0 (by rw [tab_length]; omega) ?_
        rw [el_tab hi0 hi1]
        simp only [if_true]
        refine Ret.call (hg i j hi0 hi1 hj0 hj1 hb') ?_
        refine Ret.idx hj0 (by rw [tab_length]; omega) (hn2 _ ?_)
        simp only [set_tab hj0]
        apply tab_congr
        intro k hk0 hk1
        by_cases hk : k = i
        · simp only [hk, if_true]
          apply tab_congr; intro l hl0 hl1
          by_cases hl : l = j
          · subst hl; rw [if_pos rfl, if_pos (show l < l + 1 by omega), if_pos hb']
          · simp only [if_neg hl]
            by_cases hlj : l < j
            · rw [if_pos hlj, if_pos (show l < j + 1 by omega)]
            · rw [if_neg hlj, if_neg (show ¬ l < j + 1 by omega)]
        · simp only [if_neg hk]
      · have hb' : ¬ el c.To i = el c.From j := by simpa using hb
        simp only [set_tab hi0, set_tab hj0]
        refine hn2 _ ?_
        apply tab_congr
        intro k hk0 hk1
        by_cases hk : k = i
        · simp only [hk, if_true]
          apply tab_congr; intro l hl0 hl1
          by_cases hl : l = j
          · subst hl; rw [if_pos rfl, if_pos (show l < l + 1 by omega), if_neg hb']
          · simp only [if_neg hl]
            by_cases hlj : l < j
            · rw [if_pos hlj, if_pos (show l < j + 1 by omega)]
            · rw [if_neg hlj, if_neg (show ¬ l < j + 1 by omega)]
        · simp only [if_neg hk]
    · rintro a next' rfl
      dsimp only
      rw [if_neg (by omega)]
      refine hn1 _ ?_
      apply tab_congr
      intro k hk0 hk1
      by_cases hk : k = i
      · subst hk
        simp only [if_true]
        rw [if_pos (by omega)]
        apply tab_congr; intro l hl0 hl1; rw [if_pos (by omega)]
      · simp only [if_neg hk]
        by_cases hlt : k < i
        · rw [if_pos hlt, if_pos (by omega)]
        · rw [if_neg hlt, if_neg (by omega)]
  · rintro a next rfl
    dsimp only
    simp only [decide_eq_true_eq]
    rw [if_neg (by omega)]
    refine Ret.some ?_
    congr 1
    apply tab_congr
    intro k hk0 hk1
    rw [if_pos hk1]
theorem mark_S {l : List Int} (h : Small l) {k : Int} (h0 : 0 ≤ k) (h1 : k ≤ 4611686018427387904) : M.laws_markInt64S l k = some (k + (l.length : Int), tab (l.length : Int) fun i => k + i) := by
  apply Ret.eq
  unfold M.laws_markInt64S
  refine Ret.loop (l.length : Int) (fun i s => s = (tab (l.length : Int) fun j => if j < i then k + j else el l j, k + i, i)) (by omega) (by omega) ?_ ?_ ?_
  · refine Prod.ext ?_ (Prod.ext ?_ rfl)
    · conv => lhs; rw [← tab_el l]
      dsimp only; apply tab_congr; intro j j0 j1; rw [if_neg (by omega)]
    · show k = k + 0
      omega
  · rintro i s next hi0 hi1 rfl hn
    dsimp only
    have e1 : (((l.length : Int).toNat : Nat) : Int) = (l.length : Int) := by omega
    simp only [decide_eq_true_eq, tab_length, e1]
    rw [if_pos hi1]
    refine Ret.idx hi0 (by rw [tab_length]; omega) (hn _ ?_)
    rw [set_tab hi0, wrap_in (by omega) (by omega), wrap_in (by omega) (by omega)]
    refine Prod.ext ?_ (Prod.ext ?_ rfl)
    · dsimp only; apply tab_congr; intro j j0 j1
      by_cases hj : j = i
      · subst hj; rw [if_pos rfl, if_pos (by omega)]
      · rw [if_neg hj]
        by_cases hlt : j < i
        · rw [if_pos hlt, if_pos (by omega)]
        · rw [if_neg hlt, if_neg (by omega)]
    · show k + i + 1 = k + (i + 1)
      omega
  · rintro s next rfl
    dsimp only
    have e1 : (((l.length : Int).toNat : Nat) : Int) = (l.length : Int) := by omega
    simp only [decide_eq_true_eq, tab_length, e1]
    rw [if_neg (by omega)]
    refine Ret.some (Prod.ext rfl ?_)
    dsimp only; apply tab_congr; intro j j0 j1; rw [if_pos j1]
theorem held_S {n k : Int} (hn : 0 ≤ n) (hn2 : n ≤ 1048576) (h0 : 0 ≤ k) (h1 : k ≤ 4611686018427387904) : M.laws_heldInt64S (tab n fun i => k + i) k = some (k + n) := by
  apply Ret.eq
  unfold M.laws_heldInt64S
  have e1 : ((n.toNat : Nat) : Int) = n := by omega
  refine Ret.loop n (fun i s => s = (k + i, i)) (by omega) (by omega) ?_ ?_ ?_
  · exact Prod.ext (show k = k + 0 by omega) rfl
  · rintro i s next hi0 hi1 rfl hnx
    dsimp only
    simp only [decide_eq_true_eq, tab_length, e1]
    rw [if_pos hi1]
    refine Ret.idx hi0 (by rw [tab_length]; omega) ?_
    rw [el_tab hi0 hi1]
    simp only [bne_self_eq_false, Bool.false_eq_true, if_false]
    refine hnx _ ?_
    rw [wrap_in (by omega) (by omega), wrap_in (by omega) (by omega)]
    exact Prod.ext (show k + i + 1 = k + (i + 1) by omega) rfl
  · rintro s next rfl
    dsimp only
    simp only [decide_eq_true_eq, tab_length, e1]
    rw [if_neg (by omega)]
    exact Ret.some rfl
def offs (l : List (List Int)) (i : Int) : Int := ((l.take i.toNat).map fun r => (r.length : Int)).sum
theorem offs_succ {l : List (List Int)} {i : Int} (h0 : 0 ≤ i) (h1 : i < (l.length : Int)) : offs l (i + 1) = offs l i + ((el l i).length : Int) := by
  unfold offs
  rw [take_succ_el h0 h1, List.map_append, List.sum_append]
  simp
theorem sum_le : ∀ m : List (List Int), (∀ r ∈ m, Small r) → 0 ≤ (m.map fun r => (r.length : Int)).sum ∧ (m.map fun r => (r.length : Int)).sum ≤ (m.length : Int) * 1048576
  | [], _ => by simp
  | r :: m, h => by
    have h1 := sum_le m fun x hx => h x (by simp [hx])
    have h2 := h r (by simp)
    simp only [List.map_cons, List.sum_cons, List.length_cons]
    omega
theorem offs_le {l : List (List Int)} (hr : ∀ r ∈ l, Small r) {i : Int} (h0 : 0 ≤ i) : 0 ≤ offs l i ∧ offs l i ≤ i * 1048576 := by
  have h1 := sum_le (l.take i.toNat) fun r hx => hr r (List.mem_of_mem_take hx)
  unfold offs
  have h2 : ((l.take i.toNat).length : Int) ≤ i := by rw [List.length_take]; omega
  omega
theorem mark_SS {l : List (List Int)} (h : Small l) (hr : ∀ r ∈ l, Small r) {k : Int} (h0 : 0 ≤ k) (h1 : k ≤ 2305843009213693952) :
    M.laws_markInt64SS l k = some (k + offs l (l.length : Int), tab (l.length : Int) fun j => tab ((el l j).length : Int) fun t => k + offs l j + t) := by
  apply Ret.eq
  unfold M.laws_markInt64SS
  refine Ret.loop (l.length : Int) (fun i s => s = (tab (l.length : Int) fun j => if j < i then (tab ((el l j).length : Int) fun t => k + offs l j + t) else el l j, k + offs l i, i)) (by omega) (by omega) ?_ ?_ ?_
  · refine Prod.ext ?_ (Prod.ext ?_ rfl)
    · conv => lhs; rw [← tab_el l]
      dsimp only; apply tab_congr; intro j j0 j1; rw [if_neg (by omega)]
    · show k = k + 0
      omega
  · rintro i s next hi0 hi1 rfl hn
    dsimp only
    have e1 : (((l.length : Int).toNat : Nat) : Int) = (l.length : Int) := by omega
    simp only [decide_eq_true_eq, tab_length, e1]
    rw [if_pos hi1]
    refine Ret.idx hi0 (by rw [tab_length]; omega) ?_
    rw [el_tab hi0 hi1, if_neg (by omega)]
    have ho := offs_le hr hi0
    refine Ret.call (mark_S (hr _ (el_mem hi0 hi1)) (by omega) (by omega)) (hn _ ?_)
    rw [set_tab hi0, wrap_in (by omega) (by omega)]
    refine Prod.ext ?_ (Prod.ext ?_ rfl)
    · dsimp only; apply tab_congr; intro j j0 j1
      by_cases hj : j = i
      · subst hj; rw [if_pos rfl, if_pos (by omega)]
      · rw [if_neg hj]
        by_cases hlt : j < i
        · rw [if_pos hlt, if_pos (by omega)]
        · rw [if_neg hlt, if_neg (by omega)]
    · show k + offs l i + ((el l i).length : Int) = k + offs l (i + 1)
      rw [offs_succ hi0 hi1]; omega
  · rintro s next rfl
    dsimp only
    have e1 : (((l.length : Int).toNat : Nat) : Int) = (l.length : Int) := by omega
    simp only [decide_eq_true_eq, tab_length, e1]
    rw [if_neg (by omega)]
    refine Ret.some (Prod.ext rfl ?_)
    dsimp only; apply tab_congr; intro j j0 j1; rw [if_pos j1]
theorem held_SS {l : List (List Int)} (h : Small l) (hr : ∀ r ∈ l, Small r) {k : Int} (h0 : 0 ≤ k) (h1 : k ≤ 2305843009213693952) :
    M.laws_heldInt64SS (tab (l.length : Int) fun j => tab ((el l j).length : Int) fun t => k + offs l j + t) k = some (k + offs l (l.length : Int)) := by
  apply Ret.eq
  unfold M.laws_heldInt64SS
  have e1 : (((l.length : Int).toNat : Nat) : Int) = (l.length : Int) := by omega
  refine Ret.loop (l.length : Int) (fun i s => s = (k + offs l i, i)) (by omega) (by omega) ?_ ?_ ?_
  · exact Prod.ext (show k = k + 0 by omega) rfl
  · rintro i s next hi0 hi1 rfl hnx
    dsimp only
    simp only [decide_eq_true_eq, tab_length, e1]
    rw [if_pos hi1]
    refine Ret.idx hi0 (by rw [tab_length]; omega) ?_
    rw [el_tab hi0 hi1]
    have ho := offs_le hr hi0
    have hs := hr _ (el_mem hi0 hi1)
    refine Ret.call (held_S (by omega) (by omega) (by omega) (by omega)) ?_
    rw [if_neg (by omega)]
    refine hnx _ ?_
    rw [wrap_in (by omega) (by omega)]
    refine Prod.ext ?_ rfl
    show k + offs l i + ((el l i).length : Int) = k + offs l (i + 1)
    rw [offs_succ hi0 hi1]; omega
  · rintro s next rfl
    dsimp only
    simp only [decide_eq_true_eq, tab_length, e1]
    rw [if_neg (by omega)]
    exact Ret.some rfl
def MH {α : Type} (N : Int) (mark : α → Int → Option (Int × α)) (held : α → Int → Option Int) (keep : α → α → Prop) (x : α) : Prop :=
  ∀ k, 0 ≤ k → k + N ≤ 2305843009213693952 → ∃ n x', 0 ≤ n ∧ n ≤ N ∧ mark x k = some (k + n, x') ∧ held x' k = some (k + n) ∧ keep x x'
theorem mh_S {l : List Int} (h : Small l) : MH 1048576 M.laws_markInt64S M.laws_heldInt64S (fun _ _ => True) l := by
  intro k h0 h1
  exact ⟨_, _, by omega, h, mark_S h h0 (by omega), held_S (by omega) h h0 (by omega), trivial⟩
theorem mh_SS {l : List (List Int)} (h : Small l) (hr : ∀ r ∈ l, Small r) : MH 1099511627776 M.laws_markInt64SS M.laws_heldInt64SS (fun _ _ => True) l := by
  intro k h0 h1
  have ho := offs_le hr (i := (l.length : Int)) (by omega)
  exact ⟨_, _, ho.1, by omega, mark_SS h hr h0 (by omega), held_SS h hr h0 (by omega), trivial⟩
theorem mh_C {c : XCategory} (h : SmallC c) : MH 1099514773504 M.laws_markCategory M.laws_heldCategory (fun x y => y.Objects = x.Objects) c := by
  intro k h0 h1
  obtain ⟨n1, l1, a1, b1, e1, f1, _⟩ := mh_S h.s1 k h0 (by omega)
  obtain ⟨n2, l2, a2, b2, e2, f2, _⟩ := mh_S h.s2 (k + n1) (by omega) (by omega)
  obtain ⟨n3, l3, a3, b3, e3, f3, _⟩ := mh_S h.s3 (k + n1 + n2) (by omega) (by omega)
  obtain ⟨n4, l4, a4, b4, e4, f4, _⟩ := mh_SS h.s4 h.s5 (k + n1 + n2 + n3) (by omega) (by omega)
  refine ⟨n1 + n2 + n3 + n4, ⟨c.Objects, l1, l2, l3, l4⟩, by omega, by omega, ?_, ?_, rfl⟩
  · unfold M.laws_markCategory
    simp only [e1, e2, e3, e4, Option.bind_some, Option.some.injEq, Prod.mk.injEq, and_true]
    omega
  · unfold M.laws_heldCategory
    simp only [f1, f2, f3, f4, Option.bind_some, decide_eq_true_eq]
    rw [if_neg (by omega), if_neg (by omega), if_neg (by omega), if_neg (by omega)]
    simp only [Option.some.injEq]; omega
end Go.Gx
namespace Go.Gx
open Classical
set_option maxHeartbeats 2000000
theorem numbers_eq {n : Int} (h0 : 0 ≤ n) (h1 : n ≤ 1048576) : M.impl_numbers n = some (tab n fun j => j) := by
  apply Ret.eq
  unfold M.impl_numbers
  refine Ret.chk ⟨h0, by unfold lim; omega⟩ ?_
  have e1 : ((n.toNat : Nat) : Int) = n := by omega
  simp only [List.length_replicate, e1, decide_eq_true_eq]
  refine Ret.acc n (fun i s => s = tab n fun j => if j < i then j else 0) h0 (by omega) ?_ ?_ ?_
  · rw [rep_tab]; apply tab_congr; intro j j0 j1; rw [if_neg (by omega)]
  · rintro i s next hi0 hi1 rfl hn1
    dsimp only
    rw [if_pos hi1]
    refine Ret.idx hi0 (by rw [tab_length]; omega) (hn1 _ ?_)
    rw [set_tab hi0]
    apply tab_congr; intro j j0 j1
    by_cases hj : j = i
    · subst hj; rw [if_pos rfl, if_pos (show j < j + 1 by omega)]
    · rw [if_neg hj]
      by_cases hlt : j < i
      · rw [if_pos hlt, if_pos (show j < i + 1 by omega)]
      · rw [if_neg hlt, if_neg (show ¬ j < i + 1 by omega)]
  · rintro s next rfl
    dsimp only
    rw [if_neg (by omega)]
    refine Ret.some ?_
    apply tab_congr; intro j j0 j1; rw [if_pos j1]
end Go.Gx
namespace Go.Gx
open Classical
set_option maxHeartbeats 2000000
def homL (c : XCategory) (x y : Int) : List Int := fil (c.From.length : Int) fun s => el c.From s == x && el c.To s == y
theorem l02Hom_eq {c : XCategory} (h : Shp c) (x y : Int) : M.spec_l02Hom c x y = some (homL c x y) := by
  apply Ret.eq
  have m40 := h.m40
  have lto := h.lto
  unfold M.spec_l02Hom
  refine Ret.acc (c.From.length : Int) (fun i a => a = fil i fun s => el c.From s == x && el c.To s == y) (by omega) (by omega) rfl ?_ ?_
  · rintro i a next hi0 hi1 rfl hn1
    have hle := fil_length_le i fun s => el c.From s == x && el c.To s == y
    dsimp only
    simp only [decide_eq_true_eq, beq_iff_eq]
    rw [if_pos hi1]
    refine Ret.idx hi0 hi1 (Ret.ite (fun h1 => Ret.idx hi0 (by omega) (Ret.ite (fun h2 => Ret.chk (by unfold lim; simp only [List.length_cons, List.length_nil]; omega) (hn1 _ ?_)) (fun h2 => hn1 _ ?_))) (fun h1 => hn1 _ ?_))
    · rw [fil_succ _ hi0]; simp [h1, h2]
    · rw [fil_succ _ hi0]; simp [h2]
    · rw [fil_succ _ hi0]; simp [h1]
  · rintro a next rfl
    dsimp only
    simp only [decide_eq_true_eq]
    rw [if_neg (by omega)]
    exact Ret.some rfl
theorem hom_eq {c : XCategory} (h : Shp c) (x y : Int) : M.iC_hom c x y = some (homL c x y) := l02Hom_eq h x y
theorem homL_len {c : XCategory} (h : Shp c) (x y : Int) : ((homL c x y).length : Int) ≤ 40 := by
  have := fil_length_le (c.From.length : Int) fun s => el c.From s == x && el c.To s == y
  have m40 := h.m40
  unfold homL
  omega
theorem homL_mem {c : XCategory} {x y s : Int} : s ∈ homL c x y ↔ 0 ≤ s ∧ s < (c.From.length : Int) ∧ el c.From s = x ∧ el c.To s = y := by
  unfold homL
  rw [fil_mem, Bool.and_eq_true, beq_iff_eq, beq_iff_eq]
structure Two (f g : XFunctor) : Prop where
  sf : Shp f.Source
  sg : Shp g.Source
  st : Shp f.Target
  lo : (f.Objects.length : Int) = f.Source.Objects
  la : (f.Arrows.length : Int) = (f.Source.From.length : Int)
  lo' : (g.Objects.length : Int) = g.Source.Objects
  la' : (g.Arrows.length : Int) = (g.Source.From.length : Int)
  ia : In (f.Target.From.length : Int) f.Arrows
  ia' : In (f.Target.From.length : Int) g.Arrows
end Go.Gx
namespace Go.Gx
open Classical
set_option maxHeartbeats 1000000
end Go.Gx
namespace Go.Gx
open Classical
set_option maxHeartbeats 1000000
def fac : Nat → Nat
  | 0 => 1
  | n + 1 => (n + 1) * fac n
theorem fac_pos : ∀ n, 1 ≤ fac n
  | 0 => Nat.le_refl _
  | n + 1 => by have := fac_pos n; unfold fac; exact Nat.le_trans this (Nat.le_mul_of_pos_left _ (by omega))
theorem fac_le (n : Nat) : fac n ≤ fac (n + 1) := by
  conv => rhs; unfold fac
  exact Nat.le_mul_of_pos_left _ (by omega)
theorem fac_mono {a b : Nat} (h : a ≤ b) : fac a ≤ fac b := by
  induction b with
  | zero => obtain rfl : a = 0 := by omega
            exact Nat.le_refl _
  | succ b ih =>
    by_cases e : a = b + 1
    · subst e; exact Nat.le_refl _
    · exact Nat.le_trans (ih (by omega)) (fac_le b)
def prd (f : Nat → Nat) : Nat → Nat
  | 0 => 1
  | n + 1 => prd f n * f n
def Rel (r : Int) (N : Nat) : Prop := (r = (N : Int) ∧ N ≤ 5000) ∨ (5000 < r ∧ r ≤ 500000 ∧ 5000 < N)
theorem l10Times_r {r : Int} {N : Nat} {k : Int} (h : Rel r N) (k1 : k ≤ 64) : Ret (M.spec_l10Times r k) fun r' => Rel r' (N * fac k.toNat) := by
  unfold M.spec_l10Times
  refine Ret.loop ((k - 1).toNat : Int) (fun i s => s.2 = i + 2 ∧ Rel s.1 (N * fac (i + 1).toNat)) (by omega) (by omega) ⟨rfl, ?_⟩ ?_ ?_
  · show Rel r (N * fac 1)
    rw [show fac 1 = 1 from rfl, Nat.mul_one]; exact h
  · rintro i ⟨r, j⟩ next i0 i1 ⟨rfl, hr⟩ hn
    dsimp only at *
    rw [if_pos (decide_eq_true (by omega))]
    have e : (i + 1 + 1).toNat = (i + 1).toNat + 1 := by omega
    have ef : N * fac (i + 1 + 1).toNat = N * fac (i + 1).toNat * (i + 2).toNat := by
      rw [e]
      show N * (((i + 1).toNat + 1) * fac (i + 1).toNat) = _
      rw [show (i + 2).toNat = (i + 1).toNat + 1 by omega, Nat.mul_assoc, Nat.mul_comm (fac _)]
    refine Ret.ite (fun hb => ?_) (fun hb => Ret.some ?_)
    · have hb := of_decide_eq_true hb
      rcases hr with ⟨rfl, hr⟩ | ⟨hr, _⟩
      · generalize hM : N * fac (i + 1).toNat = K at *
        have hm : (K : Int) * (i + 2) = ((K * (i + 2).toNat : Nat) : Int) := by rw [Int.natCast_mul, show (((i + 2).toNat : Nat) : Int) = i + 2 by omega]
        have hle : K * (i + 2).toNat ≤ 5000 * 64 := Nat.mul_le_mul (by omega) (by omega)
        have w1 : IntKind.i64.wrap ((K : Int) * (i + 2)) = ((K * (i + 2).toNat : Nat) : Int) := by rw [hm]; exact wrap_in (by omega) (by omega)
        refine hn (_, _) ⟨?_, ?_⟩
        · show IntKind.i64.wrap (i + 2 + 1) = i + 1 + 2
          rw [wrap_in (by omega) (by omega)]; omega
        · show Rel (IntKind.i64.wrap ((K : Int) * (i + 2))) (N * fac (i + 1 + 1).toNat)
          rw [w1, ef]
          unfold Rel
          omega
      · omega
    · have hb : ¬ r ≤ 5000 := fun h => hb (decide_eq_true h)
      rcases hr with ⟨rfl, hr⟩ | ⟨h1, h2, h3⟩
      · omega
      · refine .inr ⟨h1, h2, Nat.lt_of_lt_of_le h3 (Nat.mul_le_mul_left _ (fac_mono (by omega)))⟩
  · rintro ⟨r, j⟩ next ⟨hj, hr⟩
    dsimp only at *
    rw [if_neg (fun h => absurd (of_decide_eq_true h) (by omega))]
    refine Ret.some ?_
    have : fac ((((k - 1).toNat : Nat) : Int) + 1).toNat = fac k.toNat := by
      by_cases hk : 1 ≤ k
      · congr 1; omega
      · rw [show ((((k - 1).toNat : Nat) : Int) + 1).toNat = 1 by omega, show k.toNat = 0 by omega]; rfl
    rw [← this]; exact hr
def Rel1 (r : Int) (N : Nat) : Prop := (r = (N : Int) ∧ N ≤ 5000) ∨ (r = 5001 ∧ 5000 < N)
theorem numberings_1_r {r : Int} {N : Nat} {k : Int} (h : Rel1 r N) (k1 : k ≤ 64) : Ret (M.iC_numberings_1 k r) fun r' => Rel1 r' (N * fac k.toNat) := by
  unfold M.iC_numberings_1
  refine Ret.loop ((k - 1).toNat : Int) (fun i s => s.2 = i + 2 ∧ Rel1 s.1 (N * fac (i + 1).toNat)) (by omega) (by omega) ⟨rfl, ?_⟩ ?_ ?_
  · show Rel1 r (N * fac 1)
    rw [show fac 1 = 1 from rfl, Nat.mul_one]; exact h
  · rintro i ⟨r, j⟩ next i0 i1 ⟨rfl, hr⟩ hn
    dsimp only at *
    rw [if_pos (decide_eq_true (by omega))]
    have e : (i + 1 + 1).toNat = (i + 1).toNat + 1 := by omega
    have ef : N * fac (i + 1 + 1).toNat = N * fac (i + 1).toNat * (i + 2).toNat := by
      rw [e]
      show N * (((i + 1).toNat + 1) * fac (i + 1).toNat) = _
      rw [show (i + 2).toNat = (i + 1).toNat + 1 by omega, Nat.mul_assoc, Nat.mul_comm (fac _)]
    refine hn (_, _) ⟨?_, ?_⟩
    · show IntKind.i64.wrap (i + 2 + 1) = i + 1 + 2
      rw [wrap_in (by omega) (by omega)]; omega
    · show Rel1 (if (5001 : Int) < IntKind.i64.wrap (r * (i + 2)) then 5001 else IntKind.i64.wrap (r * (i + 2))) (N * fac (i + 1 + 1).toNat)
      rw [ef]
      generalize hM : N * fac (i + 1).toNat = K at *
      rcases hr with ⟨rfl, hr⟩ | ⟨rfl, h3⟩
      · have hm : (K : Int) * (i + 2) = ((K * (i + 2).toNat : Nat) : Int) := by rw [Int.natCast_mul, show (((i + 2).toNat : Nat) : Int) = i + 2 by omega]
        have hle : K * (i + 2).toNat ≤ 5000 * 64 := Nat.mul_le_mul (by omega) (by omega)
        have w1 : IntKind.i64.wrap ((K : Int) * (i + 2)) = ((K * (i + 2).toNat : Nat) : Int) := by rw [hm]; exact wrap_in (by omega) (by omega)
        rw [w1]
        unfold Rel1
        split <;> omega
      · have w1 : IntKind.i64.wrap (5001 * (i + 2)) = 5001 * (i + 2) := wrap_in (by omega) (by omega)
        have : K * 1 ≤ K * (i + 2).toNat := Nat.mul_le_mul_left _ (by omega)
        rw [w1, if_pos (by omega)]
        exact .inr ⟨rfl, by omega⟩
  · rintro ⟨r, j⟩ next ⟨hj, hr⟩
    dsimp only at *
    rw [if_neg (fun h => absurd (of_decide_eq_true h) (by omega))]
    refine Ret.some ?_
    have : fac ((((k - 1).toNat : Nat) : Int) + 1).toNat = fac k.toNat := by
      by_cases hk : 1 ≤ k
      · congr 1; omega
      · rw [show ((((k - 1).toNat : Nat) : Int) + 1).toNat = 1 by omega, show k.toNat = 0 by omega]; rfl
    rw [← this]; exact hr
theorem homSizes_r {c : XCategory} (h : Shp c) : Ret (M.iC_homSizes c) fun v => ∀ x y : Int, 0 ≤ x → x < 8 → 0 ≤ y → y < 8 → v (x.toNat * 8 + y.toNat) = ((homL c x y).length : Int) := by
  have m40 := h.m40
  have lto := h.lto
  have n8 := h.n8
  unfold M.iC_homSizes
  refine Ret.acc (c.From.length : Int) (fun i a => ∀ x y : Int, 0 ≤ x → x < 8 → 0 ≤ y → y < 8 → a (x.toNat * 8 + y.toNat) = ((fil i fun s => el c.From s == x && el c.To s == y).length : Int)) (by omega) (by omega) ?_ ?_ ?_
  · intro x y _ _ _ _; rfl
  · rintro i a next i0 i1 ha hn
    dsimp only
    rw [if_pos (decide_eq_true i1)]
    have a1 := h.from_in i i0 i1
    have a2 := h.to_in i i0 i1
    refine Ret.idx i0 i1 (Ret.idx i0 (by omega) (Ret.chk ⟨a1.1, by omega⟩ (Ret.chk ⟨a2.1, by omega⟩ (hn _ ?_))))
    intro x y x0 x1 y0 y1
    have h1 := ha x y x0 x1 y0 y1
    have h2 := ha (el c.From i) (el c.To i) a1.1 (by omega) a2.1 (by omega)
    have hl := fil_length_le i fun s => el c.From s == x && el c.To s == y
    have hl2 := fil_length_le i fun s => el c.From s == el c.From i && el c.To s == el c.To i
    rw [fil_succ _ i0]
    unfold upN
    by_cases e : el c.From i = x ∧ el c.To i = y
    · obtain ⟨rfl, rfl⟩ := e
      rw [if_pos (by omega), if_pos (by simp), List.length_append]
      rw [show 0 + (el c.From i).toNat * 8 + (el c.To i).toNat * 1 = (el c.From i).toNat * 8 + (el c.To i).toNat by omega, h2, wrap_in (by omega) (by omega)]
      simp
    · rw [if_neg (by omega), if_neg (by simpa using e), h1, List.append_nil]
  · rintro a next ha
    dsimp only
    rw [if_neg (fun h => absurd (of_decide_eq_true h) (by omega))]
    exact Ret.some ha
def freeK (c : XCategory) (x y : Nat) : Nat := (homL c (x : Int) (y : Int)).length - (if x = y then 1 else 0)
def numC (c : XCategory) : Nat := fac c.Objects.toNat * prd (fun x => prd (fun y => fac (freeK c x y)) c.Objects.toNat) c.Objects.toNat
theorem l10Count_r {c : XCategory} (h : Shp c) : Ret (M.spec_l10Count c) fun r => Rel r (numC c) := by
  have n0 := h.n0
  have n8 := h.n8
  unfold M.spec_l10Count
  refine Ret.bind (l10Times_r (N := 1) (.inl ⟨rfl, by omega⟩) (by omega)) fun v1 hv1 => ?_
  rw [Nat.one_mul] at hv1
  refine Ret.acc c.Objects (fun i a => Rel a (fac c.Objects.toNat * prd (fun x => prd (fun y => fac (freeK c x y)) c.Objects.toNat) i.toNat)) n0 (by omega) (by simpa [prd] using hv1) ?_ ?_
  · rintro i a next i0 i1 ha hn
    dsimp only
    rw [if_pos (decide_eq_true i1)]
    refine Ret.acc c.Objects (fun j b => Rel b (fac c.Objects.toNat * prd (fun x => prd (fun y => fac (freeK c x y)) c.Objects.toNat) i.toNat * prd (fun y => fac (freeK c i.toNat y)) j.toNat)) n0 (by omega) (by simpa [prd] using ha) ?_ ?_
    · rintro j b next2 j0 j1 hb hn2
      dsimp only
      rw [if_pos (decide_eq_true j1)]
      have hl := homL_len h i j
      have ei : ((i.toNat : Nat) : Int) = i := by omega
      have ej : ((j.toNat : Nat) : Int) = j := by omega
      have es : ∀ K : Nat, K * prd (fun y => fac (freeK c i.toNat y)) (j + 1).toNat = K * prd (fun y => fac (freeK c i.toNat y)) j.toNat * fac (freeK c i.toNat j.toNat) := fun K => by
        rw [show (j + 1).toNat = j.toNat + 1 by omega]
        show K * (_ * _) = _
        rw [Nat.mul_assoc]
      refine Ret.call (l02Hom_eq h i j) (Ret.ite (fun he => ?_) (fun he => ?_))
      · have he : i = j := by simpa using he
        subst he
        have hid := h.id_in i i0 i1
        have hm : el c.Identity i ∈ homL c i i := homL_mem.2 ⟨hid.1, hid.2, h.id_from i i0 i1, h.id_to i i0 i1⟩
        have hp := List.length_pos_of_mem hm
        rw [wrap_in (by omega) (by omega)]
        refine Ret.bind (l10Times_r hb (by omega)) fun v hv => hn2 _ ?_
        rw [es]
        have : ((((homL c i i).length : Int) - 1)).toNat = freeK c i.toNat i.toNat := by unfold freeK; rw [ei, if_pos rfl]; omega
        rw [← this]; exact hv
      · have he : ¬ i = j := by simpa using he
        refine Ret.bind (l10Times_r hb (by omega)) fun v hv => hn2 _ ?_
        rw [es]
        have : (((homL c i j).length : Int)).toNat = freeK c i.toNat j.toNat := by unfold freeK; rw [ei, ej, if_neg (by omega)]; omega
        rw [← this]; exact hv
    · rintro b next2 hb
      dsimp only
      rw [if_neg (by simp)]
      refine hn _ ?_
      rw [show (i + 1).toNat = i.toNat + 1 by omega]
      show Rel b (_ * (_ * _))
      rw [← Nat.mul_assoc]; exact hb
  · rintro a next ha
    dsimp only
    rw [if_neg (by simp)]
    exact Ret.some ha
theorem prd_more {f : Nat → Nat} {n : Nat} (h : ∀ i, n ≤ i → f i = 1) : ∀ m, prd f (n + m) = prd f n
  | 0 => rfl
  | m + 1 => by
    show prd f (n + m) * f (n + m) = _
    rw [prd_more h m, h _ (by omega), Nat.mul_one]
theorem prd_congr {f g : Nat → Nat} : ∀ {n : Nat}, (∀ i, i < n → f i = g i) → prd f n = prd g n
  | 0, _ => rfl
  | n + 1, h => by
    show prd f n * f n = prd g n * g n
    rw [prd_congr (fun i hi => h i (by omega)), h n (by omega)]
theorem homL_out {c : XCategory} (h : Shp c) {x y : Int} (hx : c.Objects ≤ x ∨ c.Objects ≤ y) : homL c x y = [] := by
  rw [List.eq_nil_iff_forall_not_mem]
  intro s hs
  obtain ⟨s0, s1, rfl, rfl⟩ := homL_mem.1 hs
  have := h.from_in s s0 s1
  have := h.to_in s s0 s1
  omega
theorem numC_8 {c : XCategory} (h : Shp c) : numC c = fac c.Objects.toNat * prd (fun x => prd (fun y => fac (freeK c x y)) 8) 8 := by
  have n0 := h.n0
  have n8 := h.n8
  have e1 : ∀ x y : Nat, c.Objects ≤ (x : Int) ∨ c.Objects ≤ (y : Int) → fac (freeK c x y) = 1 := fun x y hx => by
    unfold freeK
    rw [homL_out h hx]
    show fac (0 - _) = 1
    rw [Nat.zero_sub]; rfl
  have e2 : ∀ x : Nat, prd (fun y => fac (freeK c x y)) 8 = prd (fun y => fac (freeK c x y)) c.Objects.toNat := fun x => by
    have := prd_more (f := fun y => fac (freeK c x y)) (n := c.Objects.toNat) (fun i hi => e1 x i (.inr (by omega))) (8 - c.Objects.toNat)
    rw [show c.Objects.toNat + (8 - c.Objects.toNat) = 8 by omega] at this
    exact this
  have e3 : ∀ m x : Nat, c.Objects ≤ (x : Int) → prd (fun y => fac (freeK c x y)) m = 1 := fun m x hx => by
    induction m with
    | zero => rfl
    | succ m ih => show prd _ m * fac (freeK c x m) = 1; rw [ih, e1 x m (.inl hx)]
  unfold numC
  congr 1
  have := prd_more (f := fun x => prd (fun y => fac (freeK c x y)) 8) (n := c.Objects.toNat) (fun i hi => e3 8 i (by omega)) (8 - c.Objects.toNat)
  rw [show c.Objects.toNat + (8 - c.Objects.toNat) = 8 by omega] at this
  rw [this]
  exact prd_congr fun i _ => (e2 i).symm
theorem numberings_r {c : XCategory} (h : Shp c) : Ret (M.iC_numberings c) fun r => Rel1 r (numC c) := by
  have n0 := h.n0
  have n8 := h.n8
  rw [numC_8 h]
  unfold M.iC_numberings
  refine Ret.bind (numberings_1_r (N := 1) (.inl ⟨rfl, by omega⟩) (by omega)) fun v1 hv1 => ?_
  rw [Nat.one_mul] at hv1
  refine Ret.bind (homSizes_r h) fun v hv => ?_
  refine Ret.acc 8 (fun i a => Rel1 a (fac c.Objects.toNat * prd (fun x => prd (fun y => fac (freeK c x y)) 8) i.toNat)) (by omega) (by omega) (by simpa [prd] using hv1) ?_ ?_
  · rintro i a next i0 i1 ha hn
    dsimp only
    rw [if_pos (decide_eq_true i1)]
    refine Ret.chk ⟨i0, i1⟩ ?_
    refine Ret.acc 8 (fun j b => Rel1 b (fac c.Objects.toNat * prd (fun x => prd (fun y => fac (freeK c x y)) 8) i.toNat * prd (fun y => fac (freeK c i.toNat y)) j.toNat)) (by omega) (by omega) (by simpa [prd] using ha) ?_ ?_
    · rintro j b next2 j0 j1 hb hn2
      dsimp only
      rw [if_pos (decide_eq_true j1)]
      refine Ret.chk ⟨j0, j1⟩ ?_
      have hl := homL_len h i j
      have ei : ((i.toNat : Nat) : Int) = i := by omega
      have ej : ((j.toNat : Nat) : Int) = j := by omega
      have es : ∀ K : Nat, K * prd (fun y => fac (freeK c i.toNat y)) (j + 1).toNat = K * prd (fun y => fac (freeK c i.toNat y)) j.toNat * fac (freeK c i.toNat j.toNat) := fun K => by
        rw [show (j + 1).toNat = j.toNat + 1 by omega]
        show K * (_ * _) = _
        rw [Nat.mul_assoc]
      rw [Nat.mul_one, hv i j i0 i1 j0 j1]
      refine Ret.ite (fun he => ?_) (fun he => ?_)
      · have he : i = j := by simpa using he
        subst he
        rw [wrap_in (by omega) (by omega)]
        refine Ret.bind (numberings_1_r hb (by omega)) fun v hv => hn2 _ ?_
        rw [es]
        have : ((((homL c i i).length : Int) - 1)).toNat = freeK c i.toNat i.toNat := by unfold freeK; rw [ei, if_pos rfl]; omega
        rw [← this]; exact hv
      · have he : ¬ i = j := by simpa using he
        refine Ret.bind (numberings_1_r hb (by omega)) fun v hv => hn2 _ ?_
        rw [es]
        have : (((homL c i j).length : Int)).toNat = freeK c i.toNat j.toNat := by unfold freeK; rw [ei, ej, if_neg (by omega)]; omega
        rw [← this]; exact hv
    · rintro b next2 hb
      dsimp only
      rw [if_neg (by simp)]
      refine hn _ ?_
      rw [show (i + 1).toNat = i.toNat + 1 by omega]
      show Rel1 b (_ * (_ * _))
      rw [← Nat.mul_assoc]; exact hb
  · rintro a next ha
    dsimp only
    rw [if_neg (by simp)]
    exact Ret.some ha
end Go.Gx
namespace Go.Gx
open Classical
set_option maxHeartbeats 1000000
theorem el_getD {l : List Int} {i : Int} : el l i = l.getD i.toNat 0 := rfl
theorem flat_len {α : Type} {f : Nat → List α} {m : Nat} (h : ∀ t, (f t).length = m) : ∀ n, ((List.range n).flatMap f).length = n * m
  | 0 => by simp
  | n + 1 => by rw [List.range_succ, List.flatMap_append, List.length_append, flat_len h n]; simp [h, Nat.succ_mul]
theorem flat_succ {α : Type} (f : Nat → List α) (n : Nat) : (List.range (n + 1)).flatMap f = (List.range n).flatMap f ++ f n := by
  rw [List.range_succ, List.flatMap_append]; simp
theorem pick_perm {q : List Int} {F : Nat → List Int} (hF : ∀ k, k < q.length → (q.getD k 0 :: F k).Perm q) (h0 : 0 < q.length) {t : List Int} :
    t.Perm q ↔ ∃ k, k < q.length ∧ ∃ t', t = q.getD k 0 :: t' ∧ t'.Perm (F k) := by
  constructor
  · intro h
    cases t with
    | nil => have := h.length_eq; simp at this; omega
    | cons a t' =>
      have ha : a ∈ q := h.subset (List.mem_cons_self ..)
      obtain ⟨k, hk, e⟩ := List.mem_iff_getElem.1 ha
      have ek : q.getD k 0 = a := by rw [List.getD_eq_getElem?_getD, List.getElem?_eq_getElem hk]; exact e
      refine ⟨k, hk, t', by rw [ek], ?_⟩
      have h2 := hF k hk
      rw [ek] at h2
      exact (List.perm_cons a).1 (h.trans h2.symm)
  · rintro ⟨k, hk, t', rfl, h⟩
    exact ((List.perm_cons _).2 h).trans (hF k hk)
def mvL (l : List Int) (a k : Nat) : List Int := ((l.take a ++ [l.getD k 0]) ++ (l.drop a).take (k - a)) ++ l.drop (k + 1)
def ordN : Nat → List Int → Nat → List (List Int)
  | 0, l, _ => [l]
  | d + 1, l, a => (List.range (d + 1)).flatMap fun t => ordN d (mvL l a (a + t)) (a + 1)
theorem ordN_len : ∀ (d : Nat) (l : List Int) (a : Nat), (ordN d l a).length = fac d
  | 0, _, _ => rfl
  | d + 1, l, a => by unfold ordN; rw [flat_len (m := fac d) (fun t => ordN_len d _ _)]; rfl
theorem mvL_app (p q : List Int) (k : Nat) : mvL (p ++ q) p.length (p.length + k) = (p ++ [q.getD k 0]) ++ (q.take k ++ q.drop (k + 1)) := by
  unfold mvL
  have e1 : (p ++ q).getD (p.length + k) 0 = q.getD k 0 := by
    rw [List.getD_eq_getElem?_getD, List.getElem?_append_right (by omega), Nat.add_sub_cancel_left, ← List.getD_eq_getElem?_getD]
  rw [List.take_left, List.drop_left, e1, Nat.add_sub_cancel_left, Nat.add_assoc, List.drop_length_add_append]
  simp only [List.append_assoc]
theorem mvL_perm {q : List Int} {k : Nat} (hk : k < q.length) : (q.getD k 0 :: (q.take k ++ q.drop (k + 1))).Perm q := by
  have e : q = q.take k ++ q.getD k 0 :: q.drop (k + 1) := by
    rw [List.getD_eq_getElem?_getD, List.getElem?_eq_getElem hk, Option.getD_some, List.getElem_cons_drop, List.take_append_drop]
  conv => rhs; rw [e]
  exact List.perm_middle.symm
theorem mem_ordN : ∀ (d : Nat) (p q : List Int), q.length = d → ∀ l', l' ∈ ordN d (p ++ q) p.length ↔ ∃ t, l' = p ++ t ∧ t.Perm q
  | 0, p, q, hq, l' => by
    obtain rfl := List.eq_nil_of_length_eq_zero hq
    unfold ordN
    simp
  | d + 1, p, q, hq, l' => by
    unfold ordN
    rw [List.mem_flatMap]
    constructor
    · rintro ⟨k, hk, h⟩
      have hk : k < d + 1 := List.mem_range.1 hk
      rw [mvL_app, show p.length + 1 = (p ++ [q.getD k 0]).length by simp] at h
      obtain ⟨t, rfl, ht⟩ := (mem_ordN d _ _ (by rw [List.length_append, List.length_take, List.length_drop]; omega) l').1 h
      refine ⟨q.getD k 0 :: t, by simp, ((List.perm_cons _).2 ht).trans (mvL_perm (by omega))⟩
    · rintro ⟨t, rfl, ht⟩
      obtain ⟨k, hk, t', rfl, h⟩ := (pick_perm (F := fun k => q.take k ++ q.drop (k + 1)) (fun k hk => mvL_perm hk) (by omega)).1 ht
      refine ⟨k, List.mem_range.2 (by omega), ?_⟩
      rw [mvL_app, show p.length + 1 = (p ++ [q.getD k 0]).length by simp]
      exact (mem_ordN d _ _ (by rw [List.length_append, List.length_take, List.length_drop]; omega) _).2 ⟨t', by simp, h⟩
theorem mvL_len {l : List Int} {a k : Nat} (h : a ≤ k) (hk : k < l.length) : (mvL l a k).length = l.length := by
  unfold mvL
  simp only [List.length_append, List.length_take, List.length_drop, List.length_cons, List.length_nil]; omega
theorem l10Orders_n_eq : ∀ (d k : Nat) (l : List Int) (a : Nat), a + d = l.length → d < k → l.length ≤ 64 → fac d ≤ 5000 → M.spec_l10Orders_n k l (a : Int) = some (ordN d l a)
  | _, 0, _, _, _, h, _, _ => by omega
  | 0, k + 1, l, a, hl, _, hs, _ => by
    unfold M.spec_l10Orders_n
    rw [if_pos (decide_eq_true (by omega)), own_eq (by unfold Small; omega)]; rfl
  | d + 1, k + 1, l, a, hl, hk, hs, hf => by
    unfold M.spec_l10Orders_n
    rw [if_neg (fun h => absurd (of_decide_eq_true h) (by omega))]
    apply Ret.eq
    have hfd : fac d ≤ 5000 := Nat.le_trans (fac_le d) hf
    refine Ret.loop ((d + 1 : Nat) : Int) (fun i s => s.2 = (a : Int) + i ∧ s.1 = (List.range i.toNat).flatMap fun t => ordN d (mvL l a (a + t)) (a + 1)) (by omega) (by omega) ⟨by omega, rfl⟩ ?_ ?_
    · rintro i ⟨o, j⟩ next i0 i1 ⟨hj, ho⟩ hn
      dsimp only at *
      subst hj
      obtain ⟨t, rfl⟩ : ∃ t : Nat, i = (t : Int) := ⟨i.toNat, by omega⟩
      have ln : ((d + 1 : Nat) : Int) = (d : Int) + 1 := by omega
      rw [if_pos (decide_eq_true (by omega))]
      refine Ret.chk ⟨by omega, by omega⟩ ?_
      have e1 : ((a : Int)).toNat = a := by omega
      have e2 : ((a : Int) + (t : Int)).toNat = a + t := by omega
      have w1 : IntKind.i64.wrap ((a : Int) + (t : Int) + 1) = (a : Int) + (t : Int) + 1 := wrap_in (by omega) (by omega)
      have w2 : IntKind.i64.wrap ((a : Int) + 1) = ((a + 1 : Nat) : Int) := by rw [wrap_in (by omega) (by omega)]; omega
      have e3 : ((a : Int) + (t : Int) + 1).toNat = a + t + 1 := by omega
      simp only [e1, e2, w1, e3, w2]
      refine Ret.call (own_eq (by unfold Small; rw [List.length_take]; omega)) (Ret.idx (by omega) (by omega) ?_)
      refine Ret.chk (by unfold lim; rw [List.length_take]; simp; omega) (Ret.chk ⟨by omega, by omega, by omega⟩ (Ret.chk ?_ (Ret.chk ⟨by omega, by omega⟩ (Ret.chk ?_ ?_))))
      · unfold lim; simp only [List.length_append, List.length_take, List.length_drop, List.length_cons, List.length_nil]; omega
      · unfold lim; simp only [List.length_append, List.length_take, List.length_drop, List.length_cons, List.length_nil]; omega
      have em : ((l.take a ++ [el l ((a : Int) + (t : Int))]) ++ (l.drop a).take (a + t - a)) ++ l.drop (a + t + 1) = mvL l a (a + t) := by
        unfold mvL; rw [el_getD, e2]
      rw [em]
      have ml := mvL_len (l := l) (a := a) (k := a + t) (by omega) (by omega)
      refine Ret.call (l10Orders_n_eq d k _ (a + 1) (by omega) (by omega) (by omega) hfd) ?_
      have hol : o.length = t * fac d := by rw [ho, flat_len (m := fac d) (fun t => ordN_len d _ _)]; rfl
      have hb : (t + 1) * fac d ≤ (d + 1) * fac d := Nat.mul_le_mul_right _ (by omega)
      have hb2 : (d + 1) * fac d = fac (d + 1) := rfl
      rw [Nat.succ_mul] at hb
      refine Ret.chk (by rw [ordN_len, hol]; unfold lim; omega) (hn _ ⟨?_, ?_⟩)
      · dsimp only; omega
      · dsimp only
        rw [show ((t : Int) + 1).toNat = t + 1 by omega, flat_succ, ho]; rfl
    · rintro ⟨o, j⟩ next ⟨hj, ho⟩
      dsimp only at *
      rw [if_neg (fun h => absurd (of_decide_eq_true h) (by omega))]
      exact Ret.some ho
theorem l10Orders_eq {l : List Int} {a : Nat} (h : a ≤ l.length) (hs : l.length ≤ 64) (hf : fac (l.length - a) ≤ 5000) : M.spec_l10Orders l (a : Int) = some (ordN (l.length - a) l a) :=
  l10Orders_n_eq _ _ _ _ (by omega) (by unfold fuel; omega) hs hf
def swL (l : List Int) (i k : Nat) : List Int := (l.set i (l.getD k 0)).set k (l.getD i 0)
def visN : Nat → List Int → Nat → List (List Int)
  | 0, l, _ => [l]
  | d + 1, l, i => (List.range (d + 1)).flatMap fun t => visN d (swL l i (i + t)) (i + 1)
theorem visN_len : ∀ (d : Nat) (l : List Int) (a : Nat), (visN d l a).length = fac d
  | 0, _, _ => rfl
  | d + 1, l, a => by unfold visN; rw [flat_len (m := fac d) (fun t => visN_len d _ _)]; rfl
theorem swL_len (l : List Int) (i k : Nat) : (swL l i k).length = l.length := by unfold swL; simp
theorem getD_get {l : List Int} {i : Nat} (h : i < l.length) : l.getD i 0 = l[i] := by rw [List.getD_eq_getElem?_getD, List.getElem?_eq_getElem h]; rfl
theorem swL_perm {l : List Int} {i k : Nat} (hi : i < l.length) (hk : k < l.length) : (swL l i k).Perm l := by
  unfold swL
  rw [getD_get hi, getD_get hk]
  exact List.set_set_perm hi hk
theorem swL_app (p q : List Int) (k : Nat) : swL (p ++ q) p.length (p.length + k) = p ++ swL q 0 k := by
  have e1 : ∀ k, (p ++ q).getD (p.length + k) 0 = q.getD k 0 := fun k => by
    rw [List.getD_eq_getElem?_getD, List.getElem?_append_right (by omega), Nat.add_sub_cancel_left, ← List.getD_eq_getElem?_getD]
  have e2 := e1 0
  rw [Nat.add_zero] at e2
  unfold swL
  rw [e1 k, e2, List.set_append_right _ _ (by omega), Nat.sub_self, List.set_append_right _ _ (by omega), Nat.add_sub_cancel_left]
theorem swL_head {q : List Int} {k : Nat} (hk : k < q.length) : swL q 0 k = q.getD k 0 :: (swL q 0 k).tail := by
  cases q with
  | nil => simp at hk
  | cons a q =>
    unfold swL
    cases k with
    | zero => simp
    | succ k => simp
theorem swL_get? {l : List Int} {i k : Nat} (hi : i < l.length) (hk : k < l.length) (n : Nat) : (swL l i k)[n]? = if k = n then some (l.getD i 0) else if i = n then some (l.getD k 0) else l[n]? := by
  unfold swL
  rw [List.getElem?_set, List.length_set, List.getElem?_set]
  by_cases h1 : k = n
  · rw [if_pos h1, if_pos h1, if_pos hk]
  · rw [if_neg h1, if_neg h1]
    by_cases h2 : i = n
    · rw [if_pos h2, if_pos h2, if_pos hi]
    · rw [if_neg h2, if_neg h2]
theorem swL_swL {l : List Int} {i k : Nat} (hi : i < l.length) (hk : k < l.length) : swL (swL l i k) i k = l := by
  apply List.ext_getElem?
  intro n
  have gi : l[i]? = some (l.getD i 0) := by rw [getD_get hi]; exact List.getElem?_eq_getElem hi
  have gk : l[k]? = some (l.getD k 0) := by rw [getD_get hk]; exact List.getElem?_eq_getElem hk
  have ei : (swL l i k).getD i 0 = l.getD k 0 := by
    rw [List.getD_eq_getElem?_getD, swL_get? hi hk]
    by_cases h : k = i
    · subst h; rw [if_pos rfl]; rfl
    · rw [if_neg h, if_pos rfl]; rfl
  have ek : (swL l i k).getD k 0 = l.getD i 0 := by rw [List.getD_eq_getElem?_getD, swL_get? hi hk, if_pos rfl]; rfl
  rw [swL_get? (by rw [swL_len]; exact hi) (by rw [swL_len]; exact hk), ei, ek, swL_get? hi hk]
  by_cases h1 : k = n
  · subst h1; rw [if_pos rfl, gk]
  · rw [if_neg h1]
    by_cases h2 : i = n
    · subst h2; rw [if_pos rfl, gi]
    · rw [if_neg h2, if_neg h1, if_neg h2]
theorem mem_visN : ∀ (d : Nat) (p q : List Int), q.length = d → ∀ l', l' ∈ visN d (p ++ q) p.length ↔ ∃ t, l' = p ++ t ∧ t.Perm q
  | 0, p, q, hq, l' => by
    obtain rfl := List.eq_nil_of_length_eq_zero hq
    unfold visN
    simp
  | d + 1, p, q, hq, l' => by
    have hF : ∀ k, k < q.length → (q.getD k 0 :: (swL q 0 k).tail).Perm q := fun k hk => by
      rw [← swL_head hk]; exact swL_perm (by omega) hk
    have hlen : ∀ k, (swL q 0 k).tail.length = d := fun k => by rw [List.length_tail, swL_len]; omega
    unfold visN
    rw [List.mem_flatMap]
    constructor
    · rintro ⟨k, hk, h⟩
      have hk : k < d + 1 := List.mem_range.1 hk
      rw [swL_app, swL_head (by omega), show p.length + 1 = (p ++ [q.getD k 0]).length by simp, show p ++ q.getD k 0 :: (swL q 0 k).tail = (p ++ [q.getD k 0]) ++ (swL q 0 k).tail by simp] at h
      obtain ⟨t, rfl, ht⟩ := (mem_visN d _ _ (hlen k) l').1 h
      exact ⟨q.getD k 0 :: t, by simp, ((List.perm_cons _).2 ht).trans (hF k (by omega))⟩
    · rintro ⟨t, rfl, ht⟩
      obtain ⟨k, hk, t', rfl, h⟩ := (pick_perm hF (by omega)).1 ht
      refine ⟨k, List.mem_range.2 (by omega), ?_⟩
      rw [swL_app, swL_head (by omega), show p.length + 1 = (p ++ [q.getD k 0]).length by simp, show p ++ q.getD k 0 :: (swL q 0 k).tail = (p ++ [q.getD k 0]) ++ (swL q 0 k).tail by simp]
      exact (mem_visN d _ _ (hlen k) _).2 ⟨t', by simp, h⟩
theorem mem_visN_perm {d i : Nat} {l : List Int} (h : i + d = l.length) {l' : List Int} (hm : l' ∈ visN d l i) : l'.Perm l := by
  have e : l = l.take i ++ l.drop i := (List.take_append_drop i l).symm
  have el' : (l.take i).length = i := by rw [List.length_take]; omega
  have hm2 : l' ∈ visN d (l.take i ++ l.drop i) (l.take i).length := by rw [List.take_append_drop, el']; exact hm
  obtain ⟨t, rfl, ht⟩ := (mem_visN d (l.take i) (l.drop i) (by rw [List.length_drop]; omega) l').1 hm2
  conv => rhs; rw [e]
  exact List.Perm.append_left _ ht
theorem foldP {α β : Type} {P : β → Prop} {f : α → β → β} : ∀ {L : List α} {b : β}, (∀ x ∈ L, ∀ b, P b → P (f x b)) → P b → P (L.foldl (fun b x => f x b) b)
  | [], _, _, h => h
  | x :: L, _, hP, h => foldP (L := L) (fun y hy => hP y (List.mem_cons_of_mem _ hy)) (hP x (List.mem_cons_self ..) _ h)
theorem perm_B {P : Option XCategory → Prop} {xv : List Int → Option XCategory → Option (Option XCategory)} {f : List Int → Option XCategory → Option XCategory} : ∀ (d k : Nat) (l : List Int) (i : Nat), i + d = l.length → d < k → l.length ≤ 64 →
    (∀ l', l'.Perm l → ∀ b, P b → xv l' b = some (f l' b) ∧ P (f l' b)) → ∀ b, P b → M.impl_permutations_1_B_n k xv (i : Int) l b = some (l, (visN d l i).foldl (fun b l' => f l' b) b)
  | _, 0, _, _, _, h, _, _ => by omega
  | 0, k + 1, l, i, hl, _, hs, hv => fun b hb => by
    unfold M.impl_permutations_1_B_n
    rw [if_pos (decide_eq_true (by omega)), (hv l (List.Perm.refl l) b hb).1]; rfl
  | d + 1, k + 1, l, i, hl, hk, hs, hv => fun b hb => by
    unfold M.impl_permutations_1_B_n
    rw [if_neg (fun h => absurd (of_decide_eq_true h) (by omega))]
    apply Ret.eq
    refine Ret.loop ((d + 1 : Nat) : Int) (fun j s => s.1 = l ∧ s.2.2 = (i : Int) + j ∧ s.2.1 = ((List.range j.toNat).flatMap fun t => visN d (swL l i (i + t)) (i + 1)).foldl (fun b l' => f l' b) b ∧ P s.2.1) (by omega) (by omega) ⟨rfl, by dsimp only; omega, rfl, hb⟩ ?_ ?_
    · rintro j ⟨m, o, u⟩ next j0 j1 ⟨hm, hu, ho, hP⟩ hn
      dsimp only at *
      subst hm hu
      obtain ⟨t, rfl⟩ : ∃ t : Nat, j = (t : Int) := ⟨j.toNat, by omega⟩
      rw [if_pos (decide_eq_true (by omega))]
      refine Ret.idx (by omega) (by omega) (Ret.idx (by omega) (by omega) ?_)
      have e1 : ((i : Int)).toNat = i := by omega
      have e2 : ((i : Int) + (t : Int)).toNat = i + t := by omega
      have w1 : IntKind.i64.wrap ((i : Int) + 1) = ((i + 1 : Nat) : Int) := by rw [wrap_in (by omega) (by omega)]; omega
      simp only [el_getD, e1, e2, w1]
      have sw : (m.set i (m.getD (i + t) 0)).set (i + t) (m.getD i 0) = swL m i (i + t) := rfl
      have sl := swL_len m i (i + t)
      have sp := swL_perm (l := m) (i := i) (k := i + t) (by omega) (by omega)
      rw [sw]
      refine Ret.call (perm_B d k (swL m i (i + t)) (i + 1) (by omega) (by omega) (by omega) (fun l' h b => hv l' (h.trans sp) b) o hP) ?_
      dsimp only
      refine Ret.idx (by omega) (by omega) (Ret.idx (by omega) (by omega) ?_)
      simp only [el_getD, e1, e2]
      have sw2 : ((swL m i (i + t)).set i ((swL m i (i + t)).getD (i + t) 0)).set (i + t) ((swL m i (i + t)).getD i 0) = m := swL_swL (by omega) (by omega)
      rw [sw2]
      refine hn _ ⟨rfl, ?_, ?_, foldP (fun l' hl' b hb => (hv l' ((mem_visN_perm (by omega) hl').trans sp) b hb).2) hP⟩
      · dsimp only; rw [wrap_in (by omega) (by omega)]; omega
      · dsimp only
        rw [show ((t : Int) + 1).toNat = t + 1 by omega, flat_succ, List.foldl_append, ho]; rfl
    · rintro ⟨m, o, u⟩ next ⟨hm, hu, ho, _⟩
      dsimp only at *
      subst hm
      rw [if_neg (fun h => absurd (of_decide_eq_true h) (by omega))]
      refine Ret.some ?_
      rw [ho]; rfl
abbrev SzS := List (List Int) × (Nat → Int)
theorem perm_A {xh : Nat → Int} {f : List Int → SzS → SzS} (hf : ∀ l s, (f l s).1.length ≤ s.1.length + 1) : ∀ (d k : Nat) (l : List Int) (i : Nat), i + d = l.length → d < k → l.length ≤ 64 → fac d ≤ 5000 →
    (∀ l', l'.Perm l → ∀ s : SzS, s.1.length ≤ 10000 → M.iC_leastSizes_1 l' xh s.1 s.2 = some (f l' s)) → ∀ s : SzS, s.1.length + fac d ≤ 10000 →
    M.impl_permutations_1_A_n k xh (i : Int) l s.1 s.2 = some (l, ((visN d l i).foldl (fun b l' => f l' b) s).1, ((visN d l i).foldl (fun b l' => f l' b) s).2)
  | _, 0, _, _, _, h, _, _, _ => by omega
  | 0, k + 1, l, i, hl, _, hs, _, hv => fun s hb => by
    unfold M.impl_permutations_1_A_n
    rw [if_pos (decide_eq_true (by omega)), hv l (List.Perm.refl l) s (by omega)]; rfl
  | d + 1, k + 1, l, i, hl, hk, hs, hd, hv => fun s hb => by
    have fl : ∀ (L : List (List Int)) (s : SzS), (L.foldl (fun b l' => f l' b) s).1.length ≤ s.1.length + L.length := by
      intro L
      induction L with
      | nil => intro s; simp
      | cons a L ih => intro s; rw [List.foldl_cons, List.length_cons]; have := ih (f a s); have := hf a s; omega
    unfold M.impl_permutations_1_A_n
    rw [if_neg (fun h => absurd (of_decide_eq_true h) (by omega))]
    apply Ret.eq
    refine Ret.loop ((d + 1 : Nat) : Int) (fun j z => z.2.1 = l ∧ z.2.2.2 = (i : Int) + j ∧ (z.2.2.1, z.1) = ((List.range j.toNat).flatMap fun t => visN d (swL l i (i + t)) (i + 1)).foldl (fun b l' => f l' b) s) (by omega) (by omega) ⟨rfl, by dsimp only; omega, rfl⟩ ?_ ?_
    · rintro j ⟨b, m, o, u⟩ next j0 j1 ⟨hm, hu, ho⟩ hn
      dsimp only at *
      subst hm hu
      obtain ⟨t, rfl⟩ : ∃ t : Nat, j = (t : Int) := ⟨j.toNat, by omega⟩
      rw [if_pos (decide_eq_true (by omega))]
      refine Ret.idx (by omega) (by omega) (Ret.idx (by omega) (by omega) ?_)
      have e1 : ((i : Int)).toNat = i := by omega
      have e2 : ((i : Int) + (t : Int)).toNat = i + t := by omega
      have w1 : IntKind.i64.wrap ((i : Int) + 1) = ((i + 1 : Nat) : Int) := by rw [wrap_in (by omega) (by omega)]; omega
      simp only [el_getD, e1, e2, w1]
      have sw : (m.set i (m.getD (i + t) 0)).set (i + t) (m.getD i 0) = swL m i (i + t) := rfl
      have sl := swL_len m i (i + t)
      have sp := swL_perm (l := m) (i := i) (k := i + t) (by omega) (by omega)
      rw [sw]
      have ol : o.length ≤ s.1.length + t * fac d := by
        have := fl ((List.range ((t : Int)).toNat).flatMap fun t => visN d (swL m i (i + t)) (i + 1)) s
        rw [← ho, flat_len (m := fac d) (fun t => visN_len d _ _)] at this
        exact this
      have hb1 : (t + 1) * fac d ≤ (d + 1) * fac d := Nat.mul_le_mul_right _ (by omega)
      have hb2 : (d + 1) * fac d = fac (d + 1) := rfl
      rw [Nat.succ_mul] at hb1
      refine Ret.call (perm_A hf d k (swL m i (i + t)) (i + 1) (by omega) (by omega) (by omega) (Nat.le_trans (fac_le d) hd) (fun l' h s hs => hv l' (h.trans sp) s hs) (o, b) (by dsimp only; omega)) ?_
      dsimp only
      refine Ret.idx (by omega) (by omega) (Ret.idx (by omega) (by omega) ?_)
      simp only [el_getD, e1, e2]
      have sw2 : ((swL m i (i + t)).set i ((swL m i (i + t)).getD (i + t) 0)).set (i + t) ((swL m i (i + t)).getD i 0) = m := swL_swL (by omega) (by omega)
      rw [sw2]
      refine hn _ ⟨rfl, ?_, ?_⟩
      · dsimp only; rw [wrap_in (by omega) (by omega)]; omega
      · dsimp only
        rw [show ((t : Int) + 1).toNat = t + 1 by omega, flat_succ, List.foldl_append]
        rw [show ((t : Int)).toNat = t by omega] at ho
        rw [← ho]
    · rintro ⟨b, m, o, u⟩ next ⟨hm, hu, ho⟩
      dsimp only at *
      subst hm
      rw [if_neg (fun h => absurd (of_decide_eq_true h) (by omega))]
      refine Ret.some ?_
      have : (((d + 1 : Nat) : Int)).toNat = d + 1 := by omega
      rw [this] at ho
      show (m, o, b) = _
      rw [show visN (d + 1) m i = (List.range (d + 1)).flatMap fun t => visN d (swL m i (i + t)) (i + 1) from rfl, ← ho]
end Go.Gx
namespace Go.Gx
open Classical
set_option maxHeartbeats 1000000
def llt : List Int → List Int → Bool
  | _, [] => false
  | [], _ :: _ => true
  | a :: l, b :: m => if a = b then llt l m else decide (a < b)
theorem llt_nil (l : List Int) : llt l [] = false := by cases l <;> rfl
theorem llt_cons (a b : Int) (l m : List Int) : llt (a :: l) (b :: m) = if a = b then llt l m else decide (a < b) := rfl
theorem llt_irrefl : ∀ l, llt l l = false
  | [] => rfl
  | a :: l => by rw [llt_cons, if_pos rfl]; exact llt_irrefl l
theorem llt_trans : ∀ {a b c : List Int}, llt a b = true → llt b c = true → llt a c = true
  | a, b, [], _, h => by rw [llt_nil] at h; cases h
  | a, [], _ :: _, h, _ => by rw [llt_nil] at h; cases h
  | [], _ :: _, _ :: _, _, _ => rfl
  | x :: a, y :: b, z :: c, h1, h2 => by
    rw [llt_cons] at *
    by_cases e1 : x = y
    · subst e1
      rw [if_pos rfl] at h1
      by_cases e2 : x = z
      · rw [if_pos e2] at *; exact llt_trans h1 h2
      · rw [if_neg e2] at *; exact h2
    · rw [if_neg e1] at h1
      have h1 := of_decide_eq_true h1
      by_cases e2 : y = z
      · subst e2; rw [if_neg e1]; exact decide_eq_true h1
      · rw [if_neg e2] at h2
        have h2 := of_decide_eq_true h2
        rw [if_neg (by omega)]; exact decide_eq_true (by omega)
theorem llt_total : ∀ {a b : List Int}, llt a b = false → llt b a = false → a = b
  | [], [], _, _ => rfl
  | [], _ :: _, h, _ => by cases h
  | _ :: _, [], _, h => by cases h
  | x :: a, y :: b, h1, h2 => by
    rw [llt_cons] at *
    by_cases e : x = y
    · subst e; rw [if_pos rfl] at h1 h2; rw [llt_total h1 h2]
    · rw [if_neg e] at h1
      rw [if_neg (fun h => e h.symm)] at h2
      have := of_decide_eq_false h1
      have := of_decide_eq_false h2
      omega
theorem llt_app : ∀ {a a' b b' : List Int}, a.length = a'.length → llt (a ++ b) (a' ++ b') = if a = a' then llt b b' else llt a a'
  | [], [], _, _, _ => by simp
  | [], _ :: _, _, _, h => by simp at h
  | _ :: _, [], _, _, h => by simp at h
  | x :: a, y :: a', b, b', h => by
    rw [List.cons_append, List.cons_append, llt_cons, llt_cons, llt_app (by simpa using h)]
    by_cases e : x = y
    · subst e
      rw [if_pos rfl, if_pos rfl]
      by_cases e2 : a = a'
      · subst e2; rw [if_pos rfl, if_pos rfl]
      · rw [if_neg e2, if_neg (by simpa using e2)]
    · rw [if_neg e, if_neg e, if_neg (by intro h; exact e (List.cons.inj h).1)]
theorem drop_el {l : List Int} {i : Int} (i0 : 0 ≤ i) (i1 : i < (l.length : Int)) : l.drop i.toNat = el l i :: l.drop (i + 1).toNat := by
  rw [show (i + 1).toNat = i.toNat + 1 by omega, el_getD, getD_get (by omega), List.getElem_cons_drop]
theorem drop_end {α : Type} {l : List α} {i : Int} (h : (l.length : Int) ≤ i) : l.drop i.toNat = [] := List.drop_eq_nil_of_le (by omega)
noncomputable def cmpV (a b : List Int) : Int := if llt a b = true then -1 else if a = b then 0 else 1
theorem cmpV_neg (a b : List Int) : cmpV a b < 0 ↔ llt a b = true := by
  unfold cmpV
  split
  · simp_all
  · split <;> simp_all
theorem cmpV_zero (a b : List Int) : cmpV a b = 0 ↔ a = b := by
  unfold cmpV
  split
  · rename_i h
    refine ⟨fun e => by omega, fun e => ?_⟩
    subst e; rw [llt_irrefl] at h; cases h
  · split <;> simp_all
theorem cmpV_cons (x y : Int) (a b : List Int) : cmpV (x :: a) (y :: b) = if x = y then cmpV a b else if x < y then -1 else 1 := by
  unfold cmpV
  rw [llt_cons]
  by_cases e : x = y
  · subst e; simp
  · simp [e]
theorem cmpV_nilc (y : Int) (b : List Int) : cmpV [] (y :: b) = -1 := rfl
theorem cmpV_cnil (y : Int) (b : List Int) : cmpV (y :: b) [] = 1 := by unfold cmpV; rw [llt_nil]; simp
theorem l01Less_eq {a b : List Int} (ha : a.length ≤ 100000) : M.spec_l01Less a b = some (llt a b) := by
  apply Ret.eq
  unfold M.spec_l01Less
  refine Ret.loop (a.length : Int) (fun i s => s = i ∧ llt a b = llt (a.drop i.toNat) (b.drop i.toNat)) (by omega) (by omega) ⟨rfl, rfl⟩ ?_ ?_
  · rintro i s next i0 i1 ⟨rfl, h⟩ hn
    rw [if_pos (decide_eq_true i1)]
    refine Ret.ite (fun hb => ?_) (fun hb => Ret.some ?_)
    · have hb := of_decide_eq_true hb
      rw [drop_el i0 i1, drop_el i0 hb, llt_cons] at h
      refine Ret.idx i0 i1 (Ret.idx i0 hb (Ret.ite (fun he => Ret.some ?_) (fun he => hn _ ⟨wrap_in (by omega) (by omega), ?_⟩)))
      · rw [h, if_neg (by simpa using he)]
      · rw [h, if_pos (by simpa using he)]
    · have hb : ¬ s < (b.length : Int) := fun h => hb (decide_eq_true h)
      rw [h, drop_end (l := b) (by omega), llt_nil]
      exact decide_eq_false (by omega)
  · rintro s next ⟨rfl, h⟩
    rw [if_neg (by simp)]
    refine Ret.some ?_
    rw [h, drop_end (Int.le_refl _)]
    by_cases hb : (a.length : Int) < (b.length : Int)
    · rw [drop_el (by omega) hb]; exact decide_eq_true hb
    · rw [drop_end (l := b) (by omega)]; exact decide_eq_false hb
theorem cmp_Compare_eq (a b : Int) : M.cmp_Compare_int64 a b = some (if a < b then -1 else if a = b then 0 else 1) := by
  unfold M.cmp_Compare_int64 M.cmp_isNaN_int64
  simp only [Option.bind_some, bne_self_eq_false, Bool.false_eq_true, if_false, decide_eq_true_eq]
  by_cases h : a < b
  · rw [if_pos h, if_pos h]
  · rw [if_neg h, if_neg h]
    by_cases h2 : a = b
    · rw [if_neg (by omega), if_pos h2]
    · rw [if_pos (by omega), if_neg h2]
theorem Compare_eq {a b : List Int} (ha : a.length ≤ 100000) : M.slices_Compare_int64_int64 a b = some (cmpV a b) := by
  apply Ret.eq
  unfold M.slices_Compare_int64_int64
  refine Ret.loop (a.length : Int) (fun i s => s = i ∧ cmpV a b = cmpV (a.drop i.toNat) (b.drop i.toNat)) (by omega) (by omega) ⟨rfl, rfl⟩ ?_ ?_
  · rintro i s next i0 i1 ⟨rfl, h⟩ hn
    rw [if_pos (decide_eq_true i1)]
    refine Ret.idx i0 i1 (Ret.ite (fun hb => Ret.some ?_) (fun hb => ?_))
    · have hb := of_decide_eq_true hb
      rw [h, drop_el i0 i1, drop_end (l := b) (by omega), cmpV_cnil]
    · have hb : ¬ s ≥ (b.length : Int) := fun h => hb (decide_eq_true h)
      rw [drop_el i0 i1, drop_el i0 (by omega), cmpV_cons] at h
      refine Ret.idx i0 (by omega) (Ret.call (cmp_Compare_eq _ _) (Ret.ite (fun he => Ret.some ?_) (fun he => hn _ ⟨wrap_in (by omega) (by omega), ?_⟩)))
      · rw [h]
        by_cases e : el a s = el b s
        · simp [e] at he
        · simp only [if_neg e]
      · rw [h]
        by_cases e : el a s = el b s
        · rw [if_pos e]
        · simp only [if_neg e] at he; split at he <;> simp at he
  · rintro s next ⟨rfl, h⟩
    rw [if_neg (by simp)]
    rw [drop_end (Int.le_refl _)] at h
    refine Ret.ite (fun hb => Ret.some ?_) (fun hb => Ret.some ?_)
    · rw [h, drop_el (by omega) (of_decide_eq_true hb), cmpV_nilc]
    · have hb : ¬ (a.length : Int) < (b.length : Int) := fun h => hb (decide_eq_true h)
      rw [h, drop_end (l := b) (by omega)]; rfl
theorem compare_eq {a b : List Int} (ha : a.length ≤ 100000) (hl : a.length = b.length) : M.impl_compare a b = some (cmpV a b) := by
  apply Ret.eq
  unfold M.impl_compare
  refine Ret.loop (a.length : Int) (fun i s => s = i ∧ cmpV a b = cmpV (a.drop i.toNat) (b.drop i.toNat)) (by omega) (by omega) ⟨rfl, rfl⟩ ?_ ?_
  · rintro i s next i0 i1 ⟨rfl, h⟩ hn
    rw [if_pos (decide_eq_true i1)]
    refine Ret.ite (fun hb => absurd hb (by simp; omega)) (fun _ => ?_)
    rw [drop_el i0 i1, drop_el i0 (by omega), cmpV_cons] at h
    refine Ret.idx i0 i1 (Ret.idx i0 (by omega) (Ret.ite (fun he => ?_) (fun he => hn _ ⟨wrap_in (by omega) (by omega), ?_⟩)))
    · have he : el a s ≠ el b s := by simpa using he
      rw [if_neg he] at h
      refine Ret.ite (fun hb => Ret.some ?_) (fun hb => Ret.some ?_)
      · rw [h, if_pos (of_decide_eq_true hb)]
      · rw [h, if_neg (fun h => hb (decide_eq_true h))]
    · rw [h, if_pos (by simpa using he)]
  · rintro s next ⟨rfl, h⟩
    rw [if_neg (by simp)]
    rw [drop_end (Int.le_refl _), drop_end (l := b) (by omega)] at h
    refine Ret.ite (fun hb => absurd hb (by simp; omega)) (fun hb => Ret.some ?_)
    rw [h]; rfl
theorem drop_elL {l : List (List Int)} {i : Int} (i0 : 0 ≤ i) (i1 : i < (l.length : Int)) : l.drop i.toNat = el l i :: l.drop (i + 1).toNat := by
  rw [show (i + 1).toNat = i.toNat + 1 by omega]
  have h : i.toNat < l.length := by omega
  have : el l i = l[i.toNat] := by
    show l.getD i.toNat default = _
    rw [List.getD_eq_getElem?_getD, List.getElem?_eq_getElem h]; rfl
  rw [this, List.getElem_cons_drop]
theorem CompareFunc_r {a b : List (List Int)} (ha : a.length ≤ 100000) (hl : a.length = b.length) (hr : ∀ i, 0 ≤ i → i < (a.length : Int) → (el a i).length = (el b i).length ∧ (el a i).length ≤ 100000) :
    Ret (M.slices_CompareFunc_int64_int64_int64_int64 a b (fun (x0 : List Int) (x1 : List Int) => M.impl_compare x0 x1)) fun v => v < 0 ↔ llt a.flatten b.flatten = true := by
  unfold M.slices_CompareFunc_int64_int64_int64_int64
  refine Ret.loop (a.length : Int) (fun i s => s = i ∧ llt a.flatten b.flatten = llt (a.drop i.toNat).flatten (b.drop i.toNat).flatten) (by omega) (by omega) ⟨rfl, rfl⟩ ?_ ?_
  · rintro i s next i0 i1 ⟨rfl, h⟩ hn
    rw [if_pos (decide_eq_true i1)]
    have hr := hr s i0 i1
    rw [drop_elL i0 i1, drop_elL i0 (by omega), List.flatten_cons, List.flatten_cons, llt_app hr.1] at h
    refine Ret.idx i0 i1 (Ret.ite (fun hb => absurd hb (by simp; omega)) (fun _ => ?_))
    refine Ret.idx i0 (by omega) (Ret.call (compare_eq hr.2 hr.1) (Ret.ite (fun he => Ret.some ?_) (fun he => hn _ ⟨wrap_in (by omega) (by omega), ?_⟩)))
    · have he : ¬ el a s = el b s := fun e => by rw [(cmpV_zero _ _).2 e] at he; simp at he
      rw [h, if_neg he, cmpV_neg]
    · have he : el a s = el b s := (cmpV_zero _ _).1 (by simpa using he)
      rw [h, if_pos he]
  · rintro s next ⟨rfl, h⟩
    rw [if_neg (by simp)]
    rw [drop_end (Int.le_refl _), drop_end (l := b) (by omega)] at h
    refine Ret.ite (fun hb => absurd hb (by simp; omega)) (fun hb => Ret.some ?_)
    rw [h]; exact ⟨fun h => by omega, fun h => by cases h⟩
theorem arL_add (f : Nat → Int) : ∀ (n k m : Nat), arL k (n + m) f = arL k n f ++ arL (k + n) m f
  | 0, k, m => by rw [Nat.zero_add]; rfl
  | n + 1, k, m => by
    rw [show n + 1 + m = (n + m) + 1 by omega]
    show f k :: arL (k + 1) (n + m) f = _
    rw [arL_add f n (k + 1) m, show k + 1 + n = k + (n + 1) by omega]; rfl
theorem arL_shift (f : Nat → Int) (o : Nat) : ∀ (n k : Nat), arL k n (fun q => f (o + q)) = arL (o + k) n f
  | 0, _ => rfl
  | n + 1, k => by
    show f (o + k) :: arL (k + 1) n _ = _
    rw [arL_shift f o n (k + 1)]; rfl
theorem lessSizes_eq (a b : Nat → Int) : M.impl_lessSizes a b = some (llt (arL 0 64 a) (arL 0 64 b)) := by
  apply Ret.eq
  unfold M.impl_lessSizes
  refine Ret.loop 8 (fun i s => s = i ∧ llt (arL 0 64 a) (arL 0 64 b) = llt (arL (8 * i.toNat) (64 - 8 * i.toNat) a) (arL (8 * i.toNat) (64 - 8 * i.toNat) b)) (by omega) (by omega) ⟨rfl, rfl⟩ ?_ ?_
  · rintro i s next i0 i1 ⟨rfl, h⟩ hn
    rw [if_pos (decide_eq_true i1)]
    have e : ∀ f : Nat → Int, arL (8 * s.toNat) (64 - 8 * s.toNat) f = (arL 0 8 fun q => f (0 + s.toNat * 8 + q)) ++ arL (8 * (s + 1).toNat) (64 - 8 * (s + 1).toNat) f := fun f => by
      rw [show 64 - 8 * s.toNat = 8 + (64 - 8 * (s + 1).toNat) by omega, arL_add, arL_shift f (0 + s.toNat * 8) 8 0]
      rw [show 0 + s.toNat * 8 + 0 = 8 * s.toNat by omega, show 8 * s.toNat + 8 = 8 * (s + 1).toNat by omega]
    rw [e a, e b, llt_app (by rw [arL_len, arL_len])] at h
    refine Ret.chk ⟨i0, i1⟩ (Ret.call (Compare_eq (by rw [arL_len]; omega)) (Ret.ite (fun he => Ret.some ?_) (fun he => hn _ ⟨wrap_in (by omega) (by omega), ?_⟩)))
    · rw [h, if_neg (fun e => by rw [(cmpV_zero _ _).2 e] at he; simp at he), Bool.eq_iff_iff, decide_eq_true_eq, cmpV_neg]
    · rw [h, if_pos ((cmpV_zero _ _).1 (by simpa using he))]
  · rintro s next ⟨rfl, h⟩
    rw [if_neg (by simp)]
    exact Ret.some h.symm
section
variable {α : Type} {key : α → List Int}
def lstep (key : α → List Int) (b : Option α) (d : α) : Option α := match b with
  | none => some d
  | some b => if llt (key d) (key b) = true then some d else some b
theorem lfold_some : ∀ (L : List α) (b : α) (seen : α → Prop), seen b → (∀ e, seen e → llt (key e) (key b) = false) →
    ∃ r, L.foldl (lstep key) (some b) = some r ∧ (seen r ∨ r ∈ L) ∧ (∀ e, seen e → llt (key e) (key r) = false) ∧ ∀ e ∈ L, llt (key e) (key r) = false
  | [], b, seen, hb, h => ⟨b, rfl, .inl hb, h, fun e he => by cases he⟩
  | d :: L, b, seen, hb, h => by
    rw [List.foldl_cons]
    show ∃ r, L.foldl (lstep key) (if llt (key d) (key b) = true then some d else some b) = _ ∧ _
    by_cases e : llt (key d) (key b) = true
    · rw [if_pos e]
      obtain ⟨r, h1, h2, h3, h4⟩ := lfold_some L d (fun x => seen x ∨ x = d) (.inr rfl) (by
        rintro x (hx | rfl)
        · cases hxd : llt (key x) (key d) with
          | false => rfl
          | true => rw [← h x hx]; exact (llt_trans hxd e).symm
        · exact llt_irrefl _)
      refine ⟨r, h1, ?_, fun x hx => h3 x (.inl hx), fun x hx => ?_⟩
      · rcases h2 with (h2 | rfl) | h2
        · exact .inl h2
        · exact .inr (List.mem_cons_self ..)
        · exact .inr (List.mem_cons_of_mem _ h2)
      · rcases List.mem_cons.1 hx with rfl | hx
        · exact h3 x (.inr rfl)
        · exact h4 x hx
    · rw [if_neg e]
      obtain ⟨r, h1, h2, h3, h4⟩ := lfold_some L b (fun x => seen x ∨ x = d) (.inl hb) (by
        rintro x (hx | rfl)
        · exact h x hx
        · simpa using e)
      refine ⟨r, h1, ?_, fun x hx => h3 x (.inl hx), fun x hx => ?_⟩
      · rcases h2 with (h2 | rfl) | h2
        · exact .inl h2
        · exact .inr (List.mem_cons_self ..)
        · exact .inr (List.mem_cons_of_mem _ h2)
      · rcases List.mem_cons.1 hx with rfl | hx
        · exact h3 x (.inr rfl)
        · exact h4 x hx
theorem lfold_none {L : List α} (hL : L ≠ []) : ∃ r, L.foldl (lstep key) none = some r ∧ r ∈ L ∧ ∀ e ∈ L, llt (key e) (key r) = false := by
  cases L with
  | nil => exact absurd rfl hL
  | cons d L =>
    obtain ⟨r, h1, h2, h3, h4⟩ := lfold_some (key := key) L d (fun x => x = d) rfl (by rintro x rfl; exact llt_irrefl _)
    refine ⟨r, h1, ?_, fun x hx => ?_⟩
    · rcases h2 with rfl | h2
      · exact List.mem_cons_self ..
      · exact List.mem_cons_of_mem _ h2
    · rcases List.mem_cons.1 hx with rfl | hx
      · exact h3 x rfl
      · exact h4 x hx
end
end Go.Gx
namespace Go.Gx
open Classical
set_option maxHeartbeats 1000000
variable {c : XCategory}
def IdA (c : XCategory) (f : Int) : Prop := el c.Identity (el c.From f) = f
theorem isId_eq (h : Shp c) {f : Int} (f0 : 0 ≤ f) (f1 : f < (c.From.length : Int)) : M.iC_isIdentity c f = some (decide (IdA c f)) := by
  have a := h.from_in f f0 f1
  have l := h.lid
  unfold M.iC_isIdentity
  rw [idx_el f0 f1]
  show (idx c.Identity (el c.From f)).bind _ = _
  rw [idx_el a.1 (by omega)]
  show some (el c.Identity (el c.From f) == f) = some (decide (IdA c f))
  congr 1
  rw [Bool.eq_iff_iff, beq_iff_eq, decide_eq_true_iff]; rfl
noncomputable def restL (c : XCategory) (x y : Int) : List Int := (homL c x y).filter fun f => !decide (IdA c f)
def Good (c : XCategory) (p : Int × Int) (b : List Int) : Prop :=
  if p.1 = p.2 then ∃ t, b = el c.Identity p.1 :: t ∧ t.Perm (restL c p.1 p.2) else b.Perm (homL c p.1 p.2)
def CandP (c : XCategory) : List (Int × Int) → List Int → Prop
  | [], l => l = []
  | p :: ps, l => ∃ b t, l = b ++ t ∧ Good c p b ∧ CandP c ps t
def pairs (o : List Int) : List (Int × Int) := o.flatMap fun x => o.map fun y => (x, y)
theorem restL_ne (h : Shp c) {x y : Int} (hxy : x ≠ y) : restL c x y = homL c x y := by
  unfold restL
  rw [List.filter_eq_self]
  intro f hf
  obtain ⟨f0, f1, rfl, rfl⟩ := homL_mem.1 hf
  rw [Bool.not_eq_true', decide_eq_false_iff_not]
  intro hi
  unfold IdA at hi
  have a := h.from_in f f0 f1
  have := h.id_to _ a.1 a.2
  rw [hi] at this
  exact hxy this.symm
theorem restL_eq (_ : Shp c) {x : Int} : restL c x x = (homL c x x).filter fun f => f != el c.Identity x := by
  unfold restL
  apply List.filter_congr
  intro f hf
  obtain ⟨f0, f1, hx, _⟩ := homL_mem.1 hf
  unfold IdA
  rw [hx, Bool.eq_iff_iff, Bool.not_eq_true', decide_eq_false_iff_not, bne_iff_ne]
  exact ⟨fun h e => h e.symm, fun h e => h e.symm⟩
theorem homL_nodup (x y : Int) : (homL c x y).Nodup := by
  unfold homL fil
  rw [List.nodup_iff_pairwise_ne]
  refine List.Pairwise.filter _ ?_
  rw [List.pairwise_map]
  exact List.Pairwise.imp (fun h e => absurd e (by omega)) (List.pairwise_lt_range)
theorem hom_split (h : Shp c) {x : Int} (x0 : 0 ≤ x) (x1 : x < c.Objects) : (el c.Identity x :: restL c x x).Perm (homL c x x) := by
  have hid := h.id_in x x0 x1
  have hm : el c.Identity x ∈ homL c x x := homL_mem.2 ⟨hid.1, hid.2, h.id_from x x0 x1, h.id_to x x0 x1⟩
  rw [restL_eq h]
  have e := List.perm_cons_erase hm
  rw [(homL_nodup x x).erase_eq_filter] at e
  exact e.symm
theorem restL_len (h : Shp c) {x y : Int} (x0 : 0 ≤ x) (x1 : x < c.Objects) (y0 : 0 ≤ y) : (restL c x y).length = freeK c x.toNat y.toNat := by
  unfold freeK
  rw [show ((x.toNat : Nat) : Int) = x by omega, show ((y.toNat : Nat) : Int) = y by omega]
  by_cases e : x = y
  · subst e
    have := (hom_split h x0 x1).length_eq
    rw [if_pos rfl, ← this]; simp
  · rw [if_neg (by omega), restL_ne h e]; rfl
noncomputable def chL (c : XCategory) (p : Int × Int) : List (List Int) :=
  if p.1 = p.2 then ordN (restL c p.1 p.2).length (el c.Identity p.1 :: restL c p.1 p.2) 1 else ordN (homL c p.1 p.2).length (homL c p.1 p.2) 0
def extL (out ch : List (List Int)) : List (List Int) := out.flatMap fun a => ch.map fun b => a ++ b
theorem mem_chL {p : Int × Int} {b : List Int} : b ∈ chL c p ↔ Good c p b := by
  unfold chL Good
  split
  · have := mem_ordN (restL c p.1 p.2).length [el c.Identity p.1] (restL c p.1 p.2) rfl b
    rw [List.singleton_append] at this
    rw [show (1 : Nat) = [el c.Identity p.1].length from rfl, this]
    simp
  · have := mem_ordN (homL c p.1 p.2).length [] (homL c p.1 p.2) rfl b
    rw [List.nil_append] at this
    rw [show (0 : Nat) = ([] : List Int).length from rfl, this]
    simp
theorem mem_lists : ∀ (ps : List (Int × Int)) (out : List (List Int)) (l : List Int), l ∈ ps.foldl (fun out p => extL out (chL c p)) out ↔ ∃ a ∈ out, ∃ t, l = a ++ t ∧ CandP c ps t
  | [], out, l => by simp [CandP]
  | p :: ps, out, l => by
    rw [List.foldl_cons, mem_lists ps]
    unfold extL
    simp only [List.mem_flatMap, List.mem_map, CandP]
    constructor
    · rintro ⟨_, ⟨a, ha, b, hb, rfl⟩, t, rfl, ht⟩
      exact ⟨a, ha, b ++ t, by simp, b, t, rfl, mem_chL.1 hb, ht⟩
    · rintro ⟨a, ha, _, rfl, b, t, rfl, hb, ht⟩
      exact ⟨a ++ b, ⟨a, ha, b, mem_chL.2 hb, rfl⟩, t, by simp, ht⟩
def prodL : List Nat → Nat
  | [] => 1
  | a :: l => a * prodL l
theorem prodL_app : ∀ a b : List Nat, prodL (a ++ b) = prodL a * prodL b
  | [], b => by simp [prodL]
  | x :: a, b => by simp only [List.cons_append, prodL, prodL_app a b, Nat.mul_assoc]
theorem prodL_perm {a b : List Nat} (h : a.Perm b) : prodL a = prodL b := by
  induction h with
  | nil => rfl
  | cons x _ ih => simp only [prodL, ih]
  | swap x y l => simp only [prodL]; rw [← Nat.mul_assoc, Nat.mul_comm y x, Nat.mul_assoc]
  | trans _ _ h1 h2 => rw [h1, h2]
theorem prodL_pos : ∀ {l : List Nat}, (∀ x ∈ l, 1 ≤ x) → 1 ≤ prodL l
  | [], _ => Nat.le_refl _
  | a :: l, h => by
    have h1 := h a (List.mem_cons_self ..)
    have h2 := prodL_pos fun x hx => h x (List.mem_cons_of_mem _ hx)
    exact Nat.le_trans h1 (Nat.le_mul_of_pos_right _ h2)
theorem prodL_tab (f : Nat → Nat) : ∀ n, prodL ((List.range n).map f) = prd f n
  | 0 => rfl
  | n + 1 => by rw [List.range_succ, List.map_append, prodL_app, prodL_tab f n]; simp [prodL, prd]
def wP (c : XCategory) (p : Int × Int) : Nat := fac (freeK c p.1.toNat p.2.toNat)
theorem wP_pos (ps : List (Int × Int)) : 1 ≤ prodL (ps.map (wP c)) := prodL_pos fun x hx => by
  obtain ⟨p, _, rfl⟩ := List.mem_map.1 hx
  exact fac_pos _
def rng (c : XCategory) : List Int := tab c.Objects fun j => j
def Ord (c : XCategory) (o : List Int) : Prop := o.Perm (rng c)
theorem Ord.mem {o : List Int} (h : Ord c o) {x : Int} : x ∈ o ↔ 0 ≤ x ∧ x < c.Objects := by
  rw [h.mem_iff]
  unfold rng tab
  rw [List.mem_map]
  constructor
  · rintro ⟨k, hk, rfl⟩
    have := List.mem_range.1 hk
    dsimp only; omega
  · rintro ⟨h0, h1⟩
    exact ⟨x.toNat, List.mem_range.2 (by omega), by dsimp only; omega⟩
theorem Ord.len {o : List Int} (h : Ord c o) (n0 : 0 ≤ c.Objects) : (o.length : Int) = c.Objects := by
  rw [h.length_eq]
  unfold rng
  rw [tab_length]; omega
theorem rng_nodup : (rng c).Nodup := by
  unfold rng tab
  rw [List.nodup_iff_pairwise_ne, List.pairwise_map]
  exact List.Pairwise.imp (fun h e => absurd e (by dsimp only; omega)) (List.pairwise_lt_range)
theorem Ord.nodup {o : List Int} (h : Ord c o) : o.Nodup := h.nodup_iff.2 rng_nodup
theorem mem_pairs {o : List Int} {p : Int × Int} : p ∈ pairs o ↔ p.1 ∈ o ∧ p.2 ∈ o := by
  unfold pairs
  rw [List.mem_flatMap]
  constructor
  · rintro ⟨x, hx, h⟩
    obtain ⟨y, hy, rfl⟩ := List.mem_map.1 h
    exact ⟨hx, hy⟩
  · rintro ⟨h1, h2⟩
    exact ⟨p.1, h1, List.mem_map.2 ⟨p.2, h2, rfl⟩⟩
theorem prod_flat {α : Type} (f : α → List Nat) : ∀ l : List α, prodL (l.flatMap f) = prodL (l.map fun x => prodL (f x))
  | [] => rfl
  | a :: l => by rw [List.flatMap_cons, prodL_app, prod_flat f l]; rfl
theorem wP_total {o : List Int} (h : Ord c o) : fac c.Objects.toNat * prodL ((pairs o).map (wP c)) = numC c := by
  unfold numC
  congr 1
  unfold pairs
  rw [List.map_flatMap, prod_flat]
  have e : ∀ f : Int → Nat, prodL (o.map f) = prd (fun k => f (k : Int)) c.Objects.toNat := fun f => by
    rw [prodL_perm (h.map f)]
    unfold rng tab
    rw [List.map_map]
    exact prodL_tab (fun k => f (k : Int)) _
  rw [e]
  refine prd_congr fun i _ => ?_
  rw [List.map_map, e]
  exact prd_congr fun j _ => rfl
theorem extL_len (out ch : List (List Int)) : (extL out ch).length = out.length * ch.length := by
  unfold extL
  induction out with
  | nil => simp
  | cons a out ih => rw [List.flatMap_cons, List.length_append, ih, List.length_map, List.length_cons, Nat.succ_mul, Nat.add_comm]
theorem chL_len (h : Shp c) {p : Int × Int} (h0 : 0 ≤ p.1) (h1 : p.1 < c.Objects) (h2 : 0 ≤ p.2) : (chL c p).length = wP c p := by
  unfold chL wP
  have := restL_len h h0 h1 h2
  split
  · rw [ordN_len, this]
  · rename_i e
    rw [ordN_len, ← restL_ne h e, this]
theorem lists_len (h : Shp c) : ∀ (ps : List (Int × Int)) (out : List (List Int)), (∀ p ∈ ps, 0 ≤ p.1 ∧ p.1 < c.Objects ∧ 0 ≤ p.2) →
    (ps.foldl (fun out p => extL out (chL c p)) out).length = out.length * prodL (ps.map (wP c))
  | [], out, _ => by simp [prodL]
  | p :: ps, out, hp => by
    have h1 := hp p (List.mem_cons_self ..)
    rw [List.foldl_cons, lists_len h ps _ (fun q hq => hp q (List.mem_cons_of_mem _ hq)), extL_len, chL_len h h1.1 h1.2.1 h1.2.2]
    simp only [List.map_cons, prodL, Nat.mul_assoc]
theorem lists_small (h : Shp c) : ∀ (ps : List (Int × Int)) (out : List (List Int)) (K : Nat), (∀ l ∈ out, l.length ≤ K) → ∀ l ∈ ps.foldl (fun out p => extL out (chL c p)) out, l.length ≤ K + 41 * ps.length
  | [], out, K, hK, l, hl => by have := hK l hl; simp; omega
  | p :: ps, out, K, hK, l, hl => by
    have := lists_small h ps (extL out (chL c p)) (K + 41) (fun l hl => by
      unfold extL at hl
      simp only [List.mem_flatMap, List.mem_map] at hl
      obtain ⟨a, ha, b, hb, rfl⟩ := hl
      have h1 := hK a ha
      have h2 : b.length ≤ 41 := by
        have hl := homL_len h p.1 p.2
        have hg := mem_chL.1 hb
        unfold Good at hg
        split at hg
        · obtain ⟨t, rfl, ht⟩ := hg
          have := ht.length_eq
          have : (restL c p.1 p.2).length ≤ (homL c p.1 p.2).length := List.length_filter_le ..
          rw [List.length_cons]; omega
        · have := hg.length_eq; omega
      rw [List.length_append]; omega) l hl
    rw [List.length_cons]; omega
end Go.Gx
namespace Go.Gx
open Classical
set_option maxHeartbeats 1000000
variable {c : XCategory}
theorem Ret.join {σ ρ : Type} {Q : ρ → Prop} {k : σ → Option ρ} {x : (σ → Option ρ) → Option ρ} (h : Ret (x k) Q) : Ret (joinM k x) Q := h
theorem el_inj {o : List Int} (h : o.Nodup) {i j : Int} (i0 : 0 ≤ i) (i1 : i < (o.length : Int)) (j0 : 0 ≤ j) (j1 : j < (o.length : Int)) (e : el o i = el o j) : i = j := by
  rw [el_getD, el_getD, getD_get (by omega), getD_get (by omega)] at e
  have := (List.getElem_inj h).1 e
  omega
def PS (o : List Int) (i j : Int) : List (Int × Int) := ((o.take i.toNat).flatMap fun x => o.map fun y => (x, y)) ++ (o.take j.toNat).map fun y => (el o i, y)
theorem PS_zero {o : List Int} : PS o 0 0 = [] := by simp [PS]
theorem PS_succ {o : List Int} {i j : Int} (j0 : 0 ≤ j) (j1 : j < (o.length : Int)) : PS o i (j + 1) = PS o i j ++ [(el o i, el o j)] := by
  unfold PS
  rw [take_succ_el j0 j1, List.map_append, ← List.append_assoc]; rfl
theorem PS_row {o : List Int} {i : Int} (i0 : 0 ≤ i) (i1 : i < (o.length : Int)) : PS o i (o.length : Int) = PS o (i + 1) 0 := by
  unfold PS
  rw [take_succ_el i0 i1, List.flatMap_append]
  simp
theorem PS_all {o : List Int} : PS o (o.length : Int) 0 = pairs o := by
  unfold PS pairs
  simp
theorem PS_pre {o : List Int} {i j : Int} (i0 : 0 ≤ i) (i1 : i < (o.length : Int)) (j0 : 0 ≤ j) (j1 : j < (o.length : Int)) : ∃ post, pairs o = PS o i j ++ (el o i, el o j) :: post := by
  have e1 : o = o.take i.toNat ++ el o i :: o.drop (i + 1).toNat := by rw [← drop_el i0 i1, List.take_append_drop]
  have e2 : o = o.take j.toNat ++ el o j :: o.drop (j + 1).toNat := by rw [← drop_el j0 j1, List.take_append_drop]
  refine ⟨((o.drop (j + 1).toNat).map fun y => (el o i, y)) ++ (o.drop (i + 1).toNat).flatMap fun x => o.map fun y => (x, y), ?_⟩
  have h1 : pairs o = ((o.take i.toNat).flatMap fun x => o.map fun y => (x, y)) ++ ((o.map fun y => (el o i, y)) ++ (o.drop (i + 1).toNat).flatMap fun x => o.map fun y => (x, y)) := by
    unfold pairs
    conv => lhs; arg 2; rw [e1]
    rw [List.flatMap_append, List.flatMap_cons]
  have h2 : ∀ x : Int, (o.map fun y => (x, y)) = ((o.take j.toNat).map fun y => (x, y)) ++ ((x, el o j) :: (o.drop (j + 1).toNat).map fun y => (x, y)) := fun x => by
    have := congrArg (fun l : List Int => l.map fun y => (x, y)) e2
    rw [List.map_append, List.map_cons] at this
    exact this
  rw [h1, h2 (el o i)]
  unfold PS
  simp only [List.append_assoc, List.cons_append]
theorem pairs_len (o : List Int) : (pairs o).length = o.length * o.length := by
  unfold pairs
  have : ∀ l : List Int, (l.flatMap fun x => o.map fun y => (x, y)).length = l.length * o.length := by
    intro l
    induction l with
    | nil => simp
    | cons a l ih => rw [List.flatMap_cons, List.length_append, ih, List.length_map, List.length_cons, Nat.succ_mul, Nat.add_comm]
  exact this o
noncomputable def GG (c : XCategory) (ps : List (Int × Int)) : List (List Int) := ps.foldl (fun out p => extL out (chL c p)) [[]]
theorem GG_snoc (ps : List (Int × Int)) (p : Int × Int) : GG c (ps ++ [p]) = extL (GG c ps) (chL c p) := by unfold GG; rw [List.foldl_append]; rfl
theorem ext_loop {ρ : Type} {Q : ρ → Prop} {out ch : List (List Int)} {fin : List (List Int) × Int → Option ρ} (h1 : out.length * ch.length ≤ 5000) (h2 : out.length ≤ 5000) (h3 : ch.length ≤ 5000) (h4 : ∀ l ∈ out, l.length ≤ 100000) (h5 : ∀ l ∈ ch, l.length ≤ 100000)
    (hfin : Ret (fin (extL out ch, (out.length : Int))) Q) :
    Ret (iter (fun (s18 : (List (List Int)) × Int) next19 =>
              if decide (s18.2 < (out.length : Int)) then
                iter (fun (s23 : (List (List Int)) × Int) next24 =>
                  if decide (s23.2 < (ch.length : Int)) then
                    (idx out s18.2).bind fun y28 =>
                    (M.spec_l01Own y28).bind fun v29 =>
                    (idx ch s23.2).bind fun y30 =>
                    chk (v29.length + y30.length ≤ lim) (
                      chk (s23.1.length + 1 ≤ lim) (
                        next24 (s23.1 ++ [v29 ++ y30], IntKind.i64.wrap (s23.2 + 1))))
                  else
                    next19 (s23.1, IntKind.i64.wrap (s18.2 + 1))) fuel (s18.1, 0)
              else
                fin s18) fuel (([] : List (List Int)), 0)) Q := by
  refine Ret.acc (out.length : Int) (fun a s => s = extL (out.take a.toNat) ch) (by omega) (by omega) rfl ?_ ?_
  · rintro a s next a0 a1 rfl hn
    dsimp only
    rw [if_pos (decide_eq_true a1)]
    have la : (extL (out.take a.toNat) ch).length ≤ 5000 := by
      rw [extL_len]
      refine Nat.le_trans (Nat.mul_le_mul_right _ ?_) h1
      rw [List.length_take]; omega
    refine Ret.acc (ch.length : Int) (fun b s => s = extL (out.take a.toNat) ch ++ (ch.take b.toNat).map fun z => el out a ++ z) (by omega) (by omega) (by simp) ?_ ?_
    · rintro b s next2 b0 b1 rfl hn2
      dsimp only
      rw [if_pos (decide_eq_true b1)]
      have m1 := h4 _ (el_mem a0 a1)
      have m2 := h5 _ (el_mem b0 b1)
      refine Ret.idx a0 a1 (Ret.call (own_eq (by unfold Small; omega)) (Ret.idx b0 b1 (Ret.chk (by unfold lim; omega) (Ret.chk ?_ (hn2 _ ?_)))))
      · rw [List.length_append, List.length_map, List.length_take]; unfold lim; omega
      · rw [take_succ_el b0 b1, List.map_append, ← List.append_assoc]; rfl
    · rintro s next2 rfl
      dsimp only
      rw [if_neg (by simp)]
      refine hn _ ?_
      rw [take_succ_el a0 a1]
      unfold extL
      rw [List.flatMap_append]
      simp
  · rintro s next rfl
    dsimp only
    rw [if_neg (by simp)]
    simpa using hfin
theorem pre_le (a b : List (Int × Int)) : prodL (a.map (wP c)) ≤ prodL ((a ++ b).map (wP c)) := by
  rw [List.map_append, prodL_app]
  exact Nat.le_mul_of_pos_right _ (wP_pos b)
theorem l10Lists_eq (h : Shp c) {o : List Int} (ho : Ord c o) (hN : numC c ≤ 5000) : M.spec_l10Lists c o = some (GG c (pairs o)) := by
  have n0 := h.n0
  have n8 := h.n8
  have ol := ho.len n0
  have hP : prodL ((pairs o).map (wP c)) ≤ 5000 := by
    have := wP_total ho
    have h1 := fac_pos c.Objects.toNat
    have : 1 * prodL ((pairs o).map (wP c)) ≤ fac c.Objects.toNat * prodL ((pairs o).map (wP c)) := Nat.mul_le_mul_right _ h1
    omega
  apply Ret.eq
  unfold M.spec_l10Lists
  refine Ret.acc (o.length : Int) (fun i s => s = GG c (PS o i 0)) (by omega) (by omega) (by rw [PS_zero]; rfl) ?_ ?_
  · rintro i s next i0 i1 rfl hn
    dsimp only
    rw [if_pos (decide_eq_true i1)]
    refine Ret.acc (o.length : Int) (fun j s => s = GG c (PS o i j)) (by omega) (by omega) rfl ?_ ?_
    · rintro j s next2 j0 j1 rfl hn2
      dsimp only
      rw [if_pos (decide_eq_true j1)]
      obtain ⟨post, hpost⟩ := PS_pre i0 i1 j0 j1
      have mi := ho.mem.1 (el_mem i0 i1)
      have mj := ho.mem.1 (el_mem j0 j1)
      have hps : ∀ p ∈ PS o i j, 0 ≤ p.1 ∧ p.1 < c.Objects ∧ 0 ≤ p.2 := fun p hp => by
        have : p ∈ pairs o := by rw [hpost]; exact List.mem_append_left _ hp
        have := mem_pairs.1 this
        have h1 := ho.mem.1 this.1
        have h2 := ho.mem.1 this.2
        exact ⟨h1.1, h1.2, h2.1⟩
      have lG : (GG c (PS o i j)).length = prodL ((PS o i j).map (wP c)) := by unfold GG; rw [lists_len h _ _ hps]; simp
      have lC := chL_len h (p := (el o i, el o j)) mi.1 mi.2 mj.1
      have b1 : prodL ((PS o i j).map (wP c)) * wP c (el o i, el o j) ≤ 5000 := by
        have := pre_le (c := c) (PS o i j ++ [(el o i, el o j)]) post
        rw [List.append_assoc, List.singleton_append, ← hpost, List.map_append, prodL_app] at this
        simp only [List.map_cons, List.map_nil, prodL, Nat.mul_one] at this
        omega
      have p1 : 1 ≤ prodL ((PS o i j).map (wP c)) := wP_pos _
      have p2 : 1 ≤ wP c (el o i, el o j) := fac_pos _
      have b2 : prodL ((PS o i j).map (wP c)) ≤ 5000 := Nat.le_trans (Nat.le_mul_of_pos_right _ p2) b1
      have b3 : wP c (el o i, el o j) ≤ 5000 := Nat.le_trans (Nat.le_mul_of_pos_left _ p1) b1
      have hlenP : (PS o i j).length ≤ 64 := by
        have := congrArg List.length hpost
        rw [pairs_len, List.length_append, List.length_cons] at this
        have : o.length * o.length ≤ 8 * 8 := Nat.mul_le_mul (by omega) (by omega)
        omega
      have s1 : ∀ l ∈ GG c (PS o i j), l.length ≤ 100000 := fun l hl => by
        have := lists_small h (PS o i j) [[]] 0 (by simp) l hl
        omega
      have s2 : ∀ l ∈ chL c (el o i, el o j), l.length ≤ 100000 := fun l hl => by
        have := lists_small h [(el o i, el o j)] [[]] 0 (by simp) l (by simpa [extL] using hl)
        simp at this; omega
      have hm := homL_len h (el o i) (el o j)
      refine Ret.idx i0 i1 (Ret.idx j0 j1 (Ret.call (l02Hom_eq h _ _) (Ret.join (Ret.ite (fun he => ?_) (fun he => ?_)))))
      · have he : i = j := by simpa using he
        subst he
        have lid := h.lid
        have ec : chL c (el o i, el o i) = ordN (restL c (el o i) (el o i)).length (el c.Identity (el o i) :: restL c (el o i) (el o i)) 1 := by unfold chL; rw [if_pos rfl]
        refine Ret.idx mi.1 (by omega) ?_
        refine Ret.acc ((homL c (el o i) (el o i)).length : Int) (fun k s => s = el c.Identity (el o i) :: ((homL c (el o i) (el o i)).take k.toNat).filter fun f => f != el c.Identity (el o i)) (by omega) (by omega) (by simp) ?_ ?_
        · rintro k s next3 k0 k1 rfl hn3
          dsimp only
          rw [if_pos (decide_eq_true k1)]
          refine Ret.idx k0 k1 (Ret.idx (by omega) (by simp only [List.length_cons]; omega) ?_)
          have e0 : el (el c.Identity (el o i) :: ((homL c (el o i) (el o i)).take k.toNat).filter fun f => f != el c.Identity (el o i)) 0 = el c.Identity (el o i) := rfl
          rw [e0]
          have lf : (((homL c (el o i) (el o i)).take k.toNat).filter fun f => f != el c.Identity (el o i)).length ≤ 40 := by
            have := List.length_filter_le (fun f => f != el c.Identity (el o i)) ((homL c (el o i) (el o i)).take k.toNat)
            rw [List.length_take] at this; omega
          refine Ret.ite (fun hb => Ret.chk ?_ (hn3 _ ?_)) (fun hb => hn3 _ ?_)
          · unfold lim; simp only [List.length_cons, List.length_nil]; omega
          · rw [take_succ_el k0 k1, List.filter_append, List.filter_cons, if_pos hb, List.filter_nil, List.cons_append]
          · rw [take_succ_el k0 k1, List.filter_append, List.filter_cons, if_neg hb, List.filter_nil, List.append_nil]
        · rintro s next3 rfl
          dsimp only
          rw [if_neg (by simp)]
          have e1 : (homL c (el o i) (el o i)).take ((homL c (el o i) (el o i)).length : Int).toNat = homL c (el o i) (el o i) := by simp
          rw [e1, ← restL_eq h]
          have lr : (restL c (el o i) (el o i)).length ≤ 40 := by
            have := List.length_filter_le (fun f => !decide (IdA c f)) (homL c (el o i) (el o i))
            unfold restL; omega
          refine Ret.call (v := chL c (el o i, el o i)) ?_ ?_
          · rw [ec]
            refine l10Orders_eq (a := 1) (l := el c.Identity (el o i) :: restL c (el o i) (el o i)) (by simp) (by simp only [List.length_cons]; omega) ?_
            rw [List.length_cons, Nat.add_sub_cancel, restL_len h mi.1 mi.2 mi.1]; exact b3
          · refine ext_loop (fin := fun s18 => next2 (s18.1, IntKind.i64.wrap (i + 1))) (by rw [lG, lC]; exact b1) (by omega) (by omega) s1 s2 (hn2 _ ?_)
            rw [PS_succ j0 j1, GG_snoc]
      · have he : ¬ i = j := by simpa using he
        have hne : el o i ≠ el o j := fun e => he (el_inj ho.nodup i0 i1 j0 j1 e)
        have ec : chL c (el o i, el o j) = ordN (homL c (el o i) (el o j)).length (homL c (el o i) (el o j)) 0 := by unfold chL; rw [if_neg hne]
        dsimp only
        refine Ret.call (v := chL c (el o i, el o j)) ?_ ?_
        · rw [ec]
          refine l10Orders_eq (a := 0) (by omega) (by omega) ?_
          rw [Nat.sub_zero, ← restL_ne h hne, restL_len h mi.1 mi.2 mj.1]; exact b3
        · refine ext_loop (fin := fun s18 => next2 (s18.1, IntKind.i64.wrap (j + 1))) (by rw [lG, lC]; exact b1) (by omega) (by omega) s1 s2 (hn2 _ ?_)
          rw [PS_succ j0 j1, GG_snoc]
    · rintro s next2 rfl
      dsimp only
      rw [if_neg (by simp)]
      exact hn _ (by rw [PS_row i0 i1])
  · rintro s next rfl
    dsimp only
    rw [if_neg (by simp)]
    exact Ret.some (by rw [PS_all])
end Go.Gx
