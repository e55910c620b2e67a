/- Laid together: part 0. -/
import Derived.Test.YthafadgnjkmfkaaGxE2
import Derived.Test.YthafadgnjkmfkaaGxEM0
/- Plain laws of categories and functors: what the models of spec and impl answer. -/
namespace Go.Gx

instance : Inhabited XCategory := ⟨⟨0, [], [], [], []⟩⟩

abbrev Small {α : Type} (l : List α) : Prop := (l.length : Int) ≤ 1048576
abbrev Fits {α : Type} (l : List α) : Prop := (l.length : Int) ≤ 9223372036854775807

structure FitsC (c : XCategory) : Prop where
  f1 : Fits c.From
  f2 : Fits c.To
  f3 : Fits c.Identity
  f4 : Fits c.Composites
  f5 : ∀ r ∈ c.Composites, Fits r

structure SmallC (c : XCategory) : Prop where
  s1 : Small c.From
  s2 : Small c.To
  s3 : Small c.Identity
  s4 : Small c.Composites
  s5 : ∀ r ∈ c.Composites, Small r

structure FitsF (f : XFunctor) : Prop where
  f1 : FitsC f.Source
  f2 : FitsC f.Target
  f3 : Fits f.Objects
  f4 : Fits f.Arrows

structure SmallF (f : XFunctor) : Prop where
  s1 : SmallC f.Source
  s2 : SmallC f.Target
  s3 : Small f.Objects
  s4 : Small f.Arrows

/-! ### sizes -/

theorem szInt64S_r {l : List Int} {n : Int} (h0 : 0 ≤ n) (h1 : n ≤ 1048576) (hl : Fits l) :
    Ret (M.laws_szInt64S l n) fun r => (r < 0 ∧ r = -1) ∨ (0 ≤ r ∧ r ≤ n ∧ Small l) := by
  unfold M.laws_szInt64S
  rw [wrap_in (by omega) (by omega)]
  simp only [decide_eq_true_eq]
  (repeat' (first | with_reducible refine Ret.pos ‹_› ?_ | with_reducible refine Ret.neg ‹_› ?_ | with_reducible refine Ret.neg (Int.lt_irrefl _) ?_ | with_reducible refine Ret.ite (fun _ => ?_) (fun _ => ?_) | with_reducible refine Ret.idx ?_ ?_ ?_ | with_reducible refine Ret.chk ?_ ?_ | with_reducible refine hn3 ?_ | with_reducible refine hn2 ?_ | with_reducible refine hn1 ?_ | with_reducible refine hn3 _ ?_ | with_reducible refine hn2 _ ?_ | with_reducible refine hn1 _ ?_ | with_reducible refine Ret.some ?_))
  all_goals (try ((fail_if_success (with_reducible refine Ret.probe ?_)); grind))

theorem szInt64SS_r {l : List (List Int)} {n : Int} (h0 : 0 ≤ n) (h1 : n ≤ 1048576) (hl : Fits l) (hr : ∀ r ∈ l, Fits r) :
    Ret (M.laws_szInt64SS l n) fun r => (r < 0 ∧ r = -1) ∨ (0 ≤ r ∧ r ≤ n ∧ Small l ∧ ∀ x ∈ l, Small x) := by
  unfold M.laws_szInt64SS
  rw [wrap_in (by omega) (by omega)]
  simp only [decide_eq_true_eq]
  (repeat' (first | with_reducible refine Ret.pos ‹_› ?_ | with_reducible refine Ret.neg ‹_› ?_ | with_reducible refine Ret.neg (Int.lt_irrefl _) ?_ | with_reducible refine Ret.ite (fun _ => ?_) (fun _ => ?_) | with_reducible refine Ret.idx ?_ ?_ ?_ | with_reducible refine Ret.chk ?_ ?_ | with_reducible refine hn3 ?_ | with_reducible refine hn2 ?_ | with_reducible refine hn1 ?_ | with_reducible refine hn3 _ ?_ | with_reducible refine hn2 _ ?_ | with_reducible refine hn1 _ ?_ | with_reducible refine Ret.some ?_))
  all_goals (try ((fail_if_success (with_reducible refine Ret.probe ?_)); grind))
  refine Ret.acc (l.length : Int) (fun i a => 0 ≤ a ∧ a ≤ n ∧ ∀ j, 0 ≤ j → j < i → Small (el l j)) (by omega) (by omega) ⟨by omega, by omega, fun j h0 h1 => by omega⟩ ?_ ?_
  · intro i a next hi0 hi1 hp hn1
    dsimp only
    have := hr _ (el_mem hi0 hi1)
    (repeat' (first | with_reducible refine Ret.pos ‹_› ?_ | with_reducible refine Ret.neg ‹_› ?_ | with_reducible refine Ret.neg (Int.lt_irrefl _) ?_ | with_reducible refine Ret.ite (fun _ => ?_) (fun _ => ?_) | with_reducible refine Ret.idx ?_ ?_ ?_ | with_reducible refine Ret.chk ?_ ?_ | with_reducible refine hn3 ?_ | with_reducible refine hn2 ?_ | with_reducible refine hn1 ?_ | with_reducible refine hn3 _ ?_ | with_reducible refine hn2 _ ?_ | with_reducible refine hn1 _ ?_ | with_reducible refine Ret.bind (szInt64S_r ?_ ?_ ?_) fun v hv => ?_ | with_reducible refine Ret.some ?_))
    all_goals (try ((fail_if_success (with_reducible refine Ret.probe ?_)); grind))
  · intro a next hp
    dsimp only
    (repeat' (first | with_reducible refine Ret.pos ‹_› ?_ | with_reducible refine Ret.neg ‹_› ?_ | with_reducible refine Ret.neg (Int.lt_irrefl _) ?_ | with_reducible refine Ret.ite (fun _ => ?_) (fun _ => ?_) | with_reducible refine Ret.idx ?_ ?_ ?_ | with_reducible refine Ret.chk ?_ ?_ | with_reducible refine hn3 ?_ | with_reducible refine hn2 ?_ | with_reducible refine hn1 ?_ | with_reducible refine hn3 _ ?_ | with_reducible refine hn2 _ ?_ | with_reducible refine hn1 _ ?_ | with_reducible refine Ret.some ?_))
    refine Or.inr ⟨hp.1, hp.2.1, by omega, fun x hx => ?_⟩
    obtain ⟨i, h0, h1, rfl⟩ := mem_el hx
    exact hp.2.2 i h0 h1

theorem szCategory_r {c : XCategory} {n : Int} (h0 : 0 ≤ n) (h1 : n ≤ 1048576) (h : FitsC c) :
    Ret (M.laws_szCategory c n) fun r => (r < 0 ∧ r = -1) ∨ (0 ≤ r ∧ r ≤ n ∧ SmallC c) := by
  obtain ⟨g1, g2, g3, g4, g5⟩ := h
  unfold M.laws_szCategory
  simp only [decide_eq_true_eq]
  (repeat' (first | with_reducible refine Ret.pos ‹_› ?_ | with_reducible refine Ret.neg ‹_› ?_ | with_reducible refine Ret.neg (Int.lt_irrefl _) ?_ | with_reducible refine Ret.ite (fun _ => ?_) (fun _ => ?_) | with_reducible refine Ret.idx ?_ ?_ ?_ | with_reducible refine Ret.chk ?_ ?_ | with_reducible refine hn3 ?_ | with_reducible refine hn2 ?_ | with_reducible refine hn1 ?_ | with_reducible refine hn3 _ ?_ | with_reducible refine hn2 _ ?_ | with_reducible refine hn1 _ ?_ | with_reducible refine Ret.bind (szInt64S_r ?_ ?_ ?_) fun v hv => ?_ | with_reducible refine Ret.bind (szInt64SS_r ?_ ?_ ?_ ?_) fun v hv => ?_ | with_reducible refine Ret.some ?_))
  all_goals first | assumption | omega | (refine Or.inl ⟨by omega, rfl⟩) | (refine Or.inr ⟨by omega, by omega, ⟨by omega, by omega, by omega, by omega, ?_⟩⟩; grind)

/-! ### copies -/

theorem clone_eq {l : List Int} (h : Small l) : M.impl_clone l = some l := by
  unfold M.impl_clone chk
  rw [if_pos (by unfold lim; simp only [List.length_nil]; omega)]; simp

theorem own_eq {l : List Int} (h : Small l) : M.spec_l01Own l = some l := by
  unfold M.spec_l01Own chk
  rw [if_pos (by unfold lim; simp only [List.length_nil]; omega)]; simp

theorem own2_eq {l : List (List Int)} (h : Small l) (hr : ∀ r ∈ l, Small r) : M.spec_l01Own2 l = some l := by
  apply Ret.eq
  unfold M.spec_l01Own2
  refine Ret.acc (l.length : Int) (fun i a => a = l.take i.toNat) (by omega) (by omega) (by simp) ?_ ?_
  · rintro i a next hi0 hi1 rfl hn1
    dsimp only
    simp only [decide_eq_true_eq]
    have := hr _ (el_mem hi0 hi1)
    (repeat' (first | with_reducible refine Ret.pos ‹_› ?_ | with_reducible refine Ret.neg ‹_› ?_ | with_reducible refine Ret.neg (Int.lt_irrefl _) ?_ | with_reducible refine Ret.ite (fun _ => ?_) (fun _ => ?_) | with_reducible refine Ret.idx ?_ ?_ ?_ | with_reducible refine Ret.chk ?_ ?_ | with_reducible refine hn3 ?_ | with_reducible refine hn2 ?_ | with_reducible refine hn1 ?_ | with_reducible refine hn3 _ ?_ | with_reducible refine hn2 _ ?_ | with_reducible refine hn1 _ ?_ | with_reducible refine Ret.call (own_eq ?_) ?_ | with_reducible refine Ret.some ?_))
    all_goals (try ((fail_if_success (with_reducible refine Ret.probe ?_)); grind [lim, take_succ_el]))
  · rintro a next rfl
    dsimp only
    simp only [decide_eq_true_eq]
    (repeat' (first | with_reducible refine Ret.pos ‹_› ?_ | with_reducible refine Ret.neg ‹_› ?_ | with_reducible refine Ret.neg (Int.lt_irrefl _) ?_ | with_reducible refine Ret.ite (fun _ => ?_) (fun _ => ?_) | with_reducible refine Ret.idx ?_ ?_ ?_ | with_reducible refine Ret.chk ?_ ?_ | with_reducible refine hn3 ?_ | with_reducible refine hn2 ?_ | with_reducible refine hn1 ?_ | with_reducible refine hn3 _ ?_ | with_reducible refine hn2 _ ?_ | with_reducible refine hn1 _ ?_ | with_reducible refine Ret.some ?_))
    simp

theorem clones_eq {l : List (List Int)} (h : Small l) (hr : ∀ r ∈ l, Small r) : M.impl_clones l = some l := by
  apply Ret.eq
  unfold M.impl_clones
  refine Ret.chk ⟨by omega, by unfold lim; omega⟩ ?_
  refine Ret.acc (l.length : Int) (fun i a => a = l.take i.toNat) (by omega) (by omega) (by simp) ?_ ?_
  · rintro i a next hi0 hi1 rfl hn1
    dsimp only
    simp only [decide_eq_true_eq]
    have := hr _ (el_mem hi0 hi1)
    (repeat' (first | with_reducible refine Ret.pos ‹_› ?_ | with_reducible refine Ret.neg ‹_› ?_ | with_reducible refine Ret.neg (Int.lt_irrefl _) ?_ | with_reducible refine Ret.ite (fun _ => ?_) (fun _ => ?_) | with_reducible refine Ret.idx ?_ ?_ ?_ | with_reducible refine Ret.chk ?_ ?_ | with_reducible refine hn3 ?_ | with_reducible refine hn2 ?_ | with_reducible refine hn1 ?_ | with_reducible refine hn3 _ ?_ | with_reducible refine hn2 _ ?_ | with_reducible refine hn1 _ ?_ | with_reducible refine Ret.call (clone_eq ?_) ?_ | with_reducible refine Ret.some ?_))
    all_goals (try ((fail_if_success (with_reducible refine Ret.probe ?_)); grind [lim, take_succ_el]))
  · rintro a next rfl
    dsimp only
    simp only [decide_eq_true_eq]
    (repeat' (first | with_reducible refine Ret.pos ‹_› ?_ | with_reducible refine Ret.neg ‹_› ?_ | with_reducible refine Ret.neg (Int.lt_irrefl _) ?_ | with_reducible refine Ret.ite (fun _ => ?_) (fun _ => ?_) | with_reducible refine Ret.idx ?_ ?_ ?_ | with_reducible refine Ret.chk ?_ ?_ | with_reducible refine hn3 ?_ | with_reducible refine hn2 ?_ | with_reducible refine hn1 ?_ | with_reducible refine hn3 _ ?_ | with_reducible refine hn2 _ ?_ | with_reducible refine hn1 _ ?_ | with_reducible refine Ret.some ?_))
    simp

/-- What a copying loop has written after i rounds. -/
theorem set_copy {α : Type} [Inhabited α] {l : List α} {z : α} {i : Int} (h0 : 0 ≤ i) (_ : i < (l.length : Int)) :
    (tab (l.length : Int) fun j => if j < i then el l j else z).set i.toNat (el l i) = tab (l.length : Int) fun j => if j < i + 1 then el l j else z := by
  rw [set_tab h0]
  apply tab_congr
  intro j hj0 hj1
  grind

theorem toInt64S_eq {l : List Int} (h : Small l) : M.laws_toInt64S l = some l := by
  apply Ret.eq
  unfold M.laws_toInt64S
  refine Ret.chk ⟨by omega, by unfold lim; omega⟩ ?_
  refine Ret.acc (l.length : Int) (fun i a => a = tab (l.length : Int) fun j => if j < i then el l j else 0) (by omega) (by omega) ?_ ?_ ?_
  · rw [rep_tab]; apply tab_congr; intro j h0 h1; rw [if_neg (by omega)]
  · rintro i a next hi0 hi1 rfl hn1
    dsimp only
    simp only [decide_eq_true_eq]
    have := set_copy (z := (0 : Int)) hi0 hi1
    (repeat' (first | with_reducible refine Ret.pos ‹_› ?_ | with_reducible refine Ret.neg ‹_› ?_ | with_reducible refine Ret.neg (Int.lt_irrefl _) ?_ | with_reducible refine Ret.ite (fun _ => ?_) (fun _ => ?_) | with_reducible refine Ret.idx ?_ ?_ ?_ | with_reducible refine Ret.chk ?_ ?_ | with_reducible refine hn3 ?_ | with_reducible refine hn2 ?_ | with_reducible refine hn1 ?_ | with_reducible refine hn3 _ ?_ | with_reducible refine hn2 _ ?_ | with_reducible refine hn1 _ ?_ | with_reducible refine Ret.some ?_))
    all_goals (try ((fail_if_success (with_reducible refine Ret.probe ?_)); grind [tab_length]))
  · rintro a next rfl
    dsimp only
    simp only [decide_eq_true_eq]
    (repeat' (first | with_reducible refine Ret.pos ‹_› ?_ | with_reducible refine Ret.neg ‹_› ?_ | with_reducible refine Ret.neg (Int.lt_irrefl _) ?_ | with_reducible refine Ret.ite (fun _ => ?_) (fun _ => ?_) | with_reducible refine Ret.idx ?_ ?_ ?_ | with_reducible refine Ret.chk ?_ ?_ | with_reducible refine hn3 ?_ | with_reducible refine hn2 ?_ | with_reducible refine hn1 ?_ | with_reducible refine hn3 _ ?_ | with_reducible refine hn2 _ ?_ | with_reducible refine hn1 _ ?_ | with_reducible refine Ret.some ?_))
    conv => rhs; rw [← tab_el l]
    apply tab_congr; intro j h0 h1; rw [if_pos h1]

theorem toInt64SS_eq {l : List (List Int)} (h : Small l) (hr : ∀ r ∈ l, Small r) : M.laws_toInt64SS l = some l := by
  apply Ret.eq
  unfold M.laws_toInt64SS
  refine Ret.chk ⟨by omega, by unfold lim; omega⟩ ?_
  refine Ret.acc (l.length : Int) (fun i a => a = tab (l.length : Int) fun j => if j < i then el l j else []) (by omega) (by omega) ?_ ?_ ?_
  · rw [rep_tab]; apply tab_congr; intro j h0 h1; rw [if_neg (by omega)]
  · rintro i a next hi0 hi1 rfl hn1
    dsimp only
    simp only [decide_eq_true_eq]
    have := set_copy (z := ([] : List Int)) hi0 hi1
    have := hr _ (el_mem hi0 hi1)
    (repeat' (first | with_reducible refine Ret.pos ‹_› ?_ | with_reducible refine Ret.neg ‹_› ?_ | with_reducible refine Ret.neg (Int.lt_irrefl _) ?_ | with_reducible refine Ret.ite (fun _ => ?_) (fun _ => ?_) | with_reducible refine Ret.idx ?_ ?_ ?_ | with_reducible refine Ret.chk ?_ ?_ | with_reducible refine hn3 ?_ | with_reducible refine hn2 ?_ | with_reducible refine hn1 ?_ | with_reducible refine hn3 _ ?_ | with_reducible refine hn2 _ ?_ | with_reducible refine hn1 _ ?_ | with_reducible refine Ret.call (toInt64S_eq ?_) ?_ | with_reducible refine Ret.some ?_))
    all_goals (try ((fail_if_success (with_reducible refine Ret.probe ?_)); grind [tab_length]))
  · rintro a next rfl
    dsimp only
    simp only [decide_eq_true_eq]
    (repeat' (first | with_reducible refine Ret.pos ‹_› ?_ | with_reducible refine Ret.neg ‹_› ?_ | with_reducible refine Ret.neg (Int.lt_irrefl _) ?_ | with_reducible refine Ret.ite (fun _ => ?_) (fun _ => ?_) | with_reducible refine Ret.idx ?_ ?_ ?_ | with_reducible refine Ret.chk ?_ ?_ | with_reducible refine hn3 ?_ | with_reducible refine hn2 ?_ | with_reducible refine hn1 ?_ | with_reducible refine hn3 _ ?_ | with_reducible refine hn2 _ ?_ | with_reducible refine hn1 _ ?_ | with_reducible refine Ret.some ?_))
    conv => rhs; rw [← tab_el l]
    apply tab_congr; intro j h0 h1; rw [if_pos h1]

theorem toCategory_eq {c : XCategory} (h : SmallC c) : M.laws_toCategory c = some c := by
  unfold M.laws_toCategory
  rw [toInt64S_eq h.s1, toInt64S_eq h.s2, toInt64S_eq h.s3, toInt64SS_eq h.s4 h.s5]; rfl

theorem l02Own_eq {c : XCategory} (h : SmallC c) : M.spec_l02Own c = some c := by
  unfold M.spec_l02Own
  rw [own_eq h.s1, own_eq h.s2, own_eq h.s3, own2_eq h.s4 h.s5]; rfl

theorem copy_eq {c : XCategory} (h : SmallC c) : M.impl_Category_copy c = some c := by
  unfold M.impl_Category_copy
  rw [clone_eq h.s1, clone_eq h.s2, clone_eq h.s3, clones_eq h.s4 h.s5]; rfl

/-! ### equality -/

theorem eqInt64S_refl {l : List Int} (h : Small l) : M.laws_eqInt64S l l = some true := by
  apply Ret.eq
  unfold M.laws_eqInt64S
  simp only [bne_self_eq_false, Bool.false_eq_true, if_false, decide_eq_true_eq]
  refine Ret.all (l.length : Int) (fun _ => True) (by omega) (by omega) ?_ ?_
  · intro i next hi0 hi1 hp hn1
    (repeat' (first | with_reducible refine Ret.pos ‹_› ?_ | with_reducible refine Ret.neg ‹_› ?_ | with_reducible refine Ret.neg (Int.lt_irrefl _) ?_ | with_reducible refine Ret.ite (fun _ => ?_) (fun _ => ?_) | with_reducible refine Ret.idx ?_ ?_ ?_ | with_reducible refine Ret.chk ?_ ?_ | with_reducible refine hn3 ?_ | with_reducible refine hn2 ?_ | with_reducible refine hn1 ?_ | with_reducible refine hn3 _ ?_ | with_reducible refine hn2 _ ?_ | with_reducible refine hn1 _ ?_ | with_reducible refine Ret.some ?_))
    all_goals (try ((fail_if_success (with_reducible refine Ret.probe ?_)); grind))
  · intro next hp
    (repeat' (first | with_reducible refine Ret.pos ‹_› ?_ | with_reducible refine Ret.neg ‹_› ?_ | with_reducible refine Ret.neg (Int.lt_irrefl _) ?_ | with_reducible refine Ret.ite (fun _ => ?_) (fun _ => ?_) | with_reducible refine Ret.idx ?_ ?_ ?_ | with_reducible refine Ret.chk ?_ ?_ | with_reducible refine hn3 ?_ | with_reducible refine hn2 ?_ | with_reducible refine hn1 ?_ | with_reducible refine hn3 _ ?_ | with_reducible refine hn2 _ ?_ | with_reducible refine hn1 _ ?_ | with_reducible refine Ret.some ?_))
    all_goals (try ((fail_if_success (with_reducible refine Ret.probe ?_)); grind))

end Go.Gx

/- Plain laws: which tables are categories, and which are functors, by spec and by impl alike. -/
namespace Go.Gx
open Classical
set_option maxHeartbeats 4000000

theorem eqInt64SS_refl {l : List (List Int)} (h : Small l) (hr : ∀ r ∈ l, Small r) : M.laws_eqInt64SS l l = some true := by
  apply Ret.eq
  unfold M.laws_eqInt64SS
  simp only [bne_self_eq_false, Bool.false_eq_true, if_false, decide_eq_true_eq]
  refine Ret.all (l.length : Int) (fun _ => True) (by omega) (by omega) ?_ ?_
  · intro i next hi0 hi1 hp hn1
    have := hr _ (el_mem hi0 hi1)
    (repeat' (first | with_reducible refine Ret.pos ‹_› ?_ | with_reducible refine Ret.neg ‹_› ?_ | with_reducible refine Ret.neg (Int.lt_irrefl _) ?_ | with_reducible refine Ret.ite (fun _ => ?_) (fun _ => ?_) | with_reducible refine Ret.idx ?_ ?_ ?_ | with_reducible refine Ret.chk ?_ ?_ | with_reducible refine hn3 ?_ | with_reducible refine hn2 ?_ | with_reducible refine hn1 ?_ | with_reducible refine hn3 _ ?_ | with_reducible refine hn2 _ ?_ | with_reducible refine hn1 _ ?_ | with_reducible refine Ret.call (eqInt64S_refl ?_) ?_ | with_reducible refine Ret.some ?_))
    all_goals (try ((fail_if_success (with_reducible refine Ret.probe ?_)); grind))
  · intro next hp
    (repeat' (first | with_reducible refine Ret.pos ‹_› ?_ | with_reducible refine Ret.neg ‹_› ?_ | with_reducible refine Ret.neg (Int.lt_irrefl _) ?_ | with_reducible refine Ret.ite (fun _ => ?_) (fun _ => ?_) | with_reducible refine Ret.idx ?_ ?_ ?_ | with_reducible refine Ret.chk ?_ ?_ | with_reducible refine hn3 ?_ | with_reducible refine hn2 ?_ | with_reducible refine hn1 ?_ | with_reducible refine hn3 _ ?_ | with_reducible refine hn2 _ ?_ | with_reducible refine hn1 _ ?_ | with_reducible refine Ret.some ?_))
    all_goals (try ((fail_if_success (with_reducible refine Ret.probe ?_)); grind))

theorem eqCategory_refl {c : XCategory} (h : SmallC c) : M.laws_eqCategory c c = some true := by
  unfold M.laws_eqCategory
  rw [eqInt64S_refl h.s1, eqInt64S_refl h.s2, eqInt64S_refl h.s3, eqInt64SS_refl h.s4 h.s5]; simp

/-! ### ranges -/

abbrev In (n : Int) (l : List Int) : Prop := ∀ i, 0 ≤ i → i < (l.length : Int) → 0 ≤ el l i ∧ el l i < n

theorem l01In_eq (a b c : Int) : M.spec_l01In a b c = some (decide (b ≤ a) && decide (a ≤ c)) := by
  unfold M.spec_l01In
  by_cases h : b ≤ a <;> simp [h]
theorem inRange_eq (a b c : Int) : M.impl_inRange a b c = some (decide (b ≤ a) && decide (a ≤ c)) := by
  unfold M.impl_inRange
  by_cases h : b ≤ a <;> simp [h]

theorem l01Map_eq {n : Int} {l : List Int} (h : Small l) : M.spec_l01Map n l = some (decide (In n l)) := by
  apply Ret.ask
  unfold M.spec_l01Map
  simp only [decide_eq_true_eq]
  refine Ret.all (l.length : Int) (fun i => 0 ≤ el l i ∧ el l i < n) (by omega) (by omega) ?_ ?_
  · intro i next hi0 hi1 hp hn1
    (repeat' (first | with_reducible refine Ret.pos ‹_› ?_ | with_reducible refine Ret.neg ‹_› ?_ | with_reducible refine Ret.neg (Int.lt_irrefl _) ?_ | with_reducible refine Ret.ite (fun _ => ?_) (fun _ => ?_) | with_reducible refine Ret.idx ?_ ?_ ?_ | with_reducible refine Ret.chk ?_ ?_ | with_reducible refine hn3 ?_ | with_reducible refine hn2 ?_ | with_reducible refine hn1 ?_ | with_reducible refine hn3 _ ?_ | with_reducible refine hn2 _ ?_ | with_reducible refine hn1 _ ?_ | with_reducible refine Ret.some ?_))
    all_goals (try ((fail_if_success (with_reducible refine Ret.probe ?_)); grind))
  · intro next hp
    (repeat' (first | with_reducible refine Ret.pos ‹_› ?_ | with_reducible refine Ret.neg ‹_› ?_ | with_reducible refine Ret.neg (Int.lt_irrefl _) ?_ | with_reducible refine Ret.ite (fun _ => ?_) (fun _ => ?_) | with_reducible refine Ret.idx ?_ ?_ ?_ | with_reducible refine Ret.chk ?_ ?_ | with_reducible refine hn3 ?_ | with_reducible refine hn2 ?_ | with_reducible refine hn1 ?_ | with_reducible refine hn3 _ ?_ | with_reducible refine hn2 _ ?_ | with_reducible refine hn1 _ ?_ | with_reducible refine Ret.some ?_))
    all_goals (try ((fail_if_success (with_reducible refine Ret.probe ?_)); grind))

theorem within_eq {n : Int} {l : List Int} (h : Small l) (h0 : -4611686018427387904 ≤ n) (h1 : n ≤ 4611686018427387904) : M.impl_within l n = some (decide (In n l)) := by
  apply Ret.ask
  unfold M.impl_within
  rw [wrap_in (by omega) (by omega)]
  simp only [decide_eq_true_eq]
  refine Ret.all (l.length : Int) (fun i => 0 ≤ el l i ∧ el l i < n) (by omega) (by omega) ?_ ?_
  · intro i next hi0 hi1 hp hn1
    (repeat' (first | with_reducible refine Ret.pos ‹_› ?_ | with_reducible refine Ret.neg ‹_› ?_ | with_reducible refine Ret.neg (Int.lt_irrefl _) ?_ | with_reducible refine Ret.ite (fun _ => ?_) (fun _ => ?_) | with_reducible refine Ret.idx ?_ ?_ ?_ | with_reducible refine Ret.chk ?_ ?_ | with_reducible refine hn3 ?_ | with_reducible refine hn2 ?_ | with_reducible refine hn1 ?_ | with_reducible refine hn3 _ ?_ | with_reducible refine hn2 _ ?_ | with_reducible refine hn1 _ ?_ | with_reducible refine Ret.call (inRange_eq _ _ _) ?_ | with_reducible refine Ret.some ?_))
    all_goals (try ((fail_if_success (with_reducible refine Ret.probe ?_)); grind))
  · intro next hp
    (repeat' (first | with_reducible refine Ret.pos ‹_› ?_ | with_reducible refine Ret.neg ‹_› ?_ | with_reducible refine Ret.neg (Int.lt_irrefl _) ?_ | with_reducible refine Ret.ite (fun _ => ?_) (fun _ => ?_) | with_reducible refine Ret.idx ?_ ?_ ?_ | with_reducible refine Ret.chk ?_ ?_ | with_reducible refine hn3 ?_ | with_reducible refine hn2 ?_ | with_reducible refine hn1 ?_ | with_reducible refine hn3 _ ?_ | with_reducible refine hn2 _ ?_ | with_reducible refine hn1 _ ?_ | with_reducible refine Ret.call (inRange_eq _ _ _) ?_ | with_reducible refine Ret.some ?_))
    all_goals (try ((fail_if_success (with_reducible refine Ret.probe ?_)); grind))

theorem l02Ends_eq {n m : Int} {l : List Int} (h : Small l) : M.spec_l02Ends l m n = some (decide ((l.length : Int) = m ∧ In n l)) := by
  apply Ret.ask
  unfold M.spec_l02Ends
  simp only [beq_iff_eq]
  (repeat' (first | with_reducible refine Ret.pos ‹_› ?_ | with_reducible refine Ret.neg ‹_› ?_ | with_reducible refine Ret.neg (Int.lt_irrefl _) ?_ | with_reducible refine Ret.ite (fun _ => ?_) (fun _ => ?_) | with_reducible refine Ret.idx ?_ ?_ ?_ | with_reducible refine Ret.chk ?_ ?_ | with_reducible refine hn3 ?_ | with_reducible refine hn2 ?_ | with_reducible refine hn1 ?_ | with_reducible refine hn3 _ ?_ | with_reducible refine hn2 _ ?_ | with_reducible refine hn1 _ ?_ | with_reducible refine Ret.call (l01Map_eq h) ?_ | with_reducible refine Ret.some ?_))
  all_goals (try ((fail_if_success (with_reducible refine Ret.probe ?_)); grind))

/-! ### categories -/

/-- The composite of i and j. -/
abbrev cmp (c : XCategory) (i j : Int) : Int := el (el c.Composites i) j

def CompOk (c : XCategory) (i j : Int) : Prop :=
  (el c.To i ≠ el c.From j → cmp c i j = -1) ∧
  (el c.To i = el c.From j → 0 ≤ cmp c i j ∧ cmp c i j < (c.From.length : Int) ∧ el c.From (cmp c i j) = el c.From i ∧ el c.To (cmp c i j) = el c.To j)

def Shape (c : XCategory) : Prop :=
  0 ≤ c.Objects ∧ c.Objects ≤ 8 ∧ (c.From.length : Int) ≤ 40 ∧ (c.To.length : Int) = (c.From.length : Int) ∧ (c.Identity.length : Int) = c.Objects ∧
  (c.Composites.length : Int) = (c.From.length : Int) ∧ In c.Objects c.From ∧ In c.Objects c.To ∧ In (c.From.length : Int) c.Identity ∧
  (∀ i, 0 ≤ i → i < c.Objects → el c.From (el c.Identity i) = i ∧ el c.To (el c.Identity i) = i) ∧
  (∀ i, 0 ≤ i → i < (c.From.length : Int) → ((el c.Composites i).length : Int) = (c.From.length : Int) ∧ ∀ j, 0 ≤ j → j < (c.From.length : Int) → CompOk c i j)

theorem IsShape_eq {c : XCategory} (h : SmallC c) : M.spec_IsShape c = some (decide (Shape c)) := by
  apply Ret.ask
  obtain ⟨s1, s2, s3, s4, s5⟩ := h
  unfold M.spec_IsShape
  simp only [decide_eq_true_eq, bne_iff_ne, ne_eq]
  (repeat' (first | with_reducible refine Ret.pos ‹_› ?_ | with_reducible refine Ret.neg ‹_› ?_ | with_reducible refine Ret.neg (Int.lt_irrefl _) ?_ | with_reducible refine Ret.ite (fun _ => ?_) (fun _ => ?_) | with_reducible refine Ret.idx ?_ ?_ ?_ | with_reducible refine Ret.chk ?_ ?_ | with_reducible refine hn3 ?_ | with_reducible refine hn2 ?_ | with_reducible refine hn1 ?_ | with_reducible refine hn3 _ ?_ | with_reducible refine hn2 _ ?_ | with_reducible refine hn1 _ ?_ | with_reducible refine Ret.call (l01In_eq _ _ _) ?_ | with_reducible refine Ret.call (l02Ends_eq ?_) ?_ | with_reducible refine Ret.call (l01Map_eq ?_) ?_ | with_reducible refine Ret.some ?_))
  all_goals (try ((fail_if_success (with_reducible refine Ret.probe ?_)); grind [Shape]))
  refine Ret.all c.Objects (fun i => el c.From (el c.Identity i) = i ∧ el c.To (el c.Identity i) = i) ?_ ?_ ?_ ?_
  · grind
  · grind
  · intro i next hi0 hi1 hp hn1
    (repeat' (first | with_reducible refine Ret.pos ‹_› ?_ | with_reducible refine Ret.neg ‹_› ?_ | with_reducible refine Ret.neg (Int.lt_irrefl _) ?_ | with_reducible refine Ret.ite (fun _ => ?_) (fun _ => ?_) | with_reducible refine Ret.idx ?_ ?_ ?_ | with_reducible refine Ret.chk ?_ ?_ | with_reducible refine hn3 ?_ | with_reducible refine hn2 ?_ | with_reducible refine hn1 ?_ | with_reducible refine hn3 _ ?_ | with_reducible refine hn2 _ ?_ | with_reducible refine hn1 _ ?_ | with_reducible refine Ret.some ?_))
    all_goals (try ((fail_if_success (with_reducible refine Ret.probe ?_)); grind [Shape]))
  · intro next hpI
    (repeat' (first | with_reducible refine Ret.pos ‹_› ?_ | with_reducible refine Ret.neg ‹_› ?_ | with_reducible refine Ret.neg (Int.lt_irrefl _) ?_ | with_reducible refine Ret.ite (fun _ => ?_) (fun _ => ?_) | with_reducible refine Ret.idx ?_ ?_ ?_ | with_reducible refine Ret.chk ?_ ?_ | with_reducible refine hn3 ?_ | with_reducible refine hn2 ?_ | with_reducible refine hn1 ?_ | with_reducible refine hn3 _ ?_ | with_reducible refine hn2 _ ?_ | with_reducible refine hn1 _ ?_ | with_reducible refine Ret.some ?_))
    all_goals (try ((fail_if_success (with_reducible refine Ret.probe ?_)); grind))
    refine Ret.all (c.From.length : Int) (fun i => ((el c.Composites i).length : Int) = (c.From.length : Int) ∧ ∀ j, 0 ≤ j → j < (c.From.length : Int) → CompOk c i j) (by omega) (by omega) ?_ ?_
    · intro i next hi0 hi1 hp hn1
      (repeat' (first | with_reducible refine Ret.pos ‹_› ?_ | with_reducible refine Ret.neg ‹_› ?_ | with_reducible refine Ret.neg (Int.lt_irrefl _) ?_ | with_reducible refine Ret.ite (fun _ => ?_) (fun _ => ?_) | with_reducible refine Ret.idx ?_ ?_ ?_ | with_reducible refine Ret.chk ?_ ?_ | with_reducible refine hn3 ?_ | with_reducible refine hn2 ?_ | with_reducible refine hn1 ?_ | with_reducible refine hn3 _ ?_ | with_reducible refine hn2 _ ?_ | with_reducible refine hn1 _ ?_ | with_reducible refine Ret.some ?_))
      all_goals (try ((fail_if_success (with_reducible refine Ret.probe ?_)); grind [Shape]))
      refine Ret.all (c.From.length : Int) (fun j => CompOk c i j) (by omega) (by omega) ?_ ?_
      · intro j next hj0 hj1 hp2 hn2
        (repeat' (first | with_reducible refine Ret.pos ‹_› ?_ | with_reducible refine Ret.neg ‹_› ?_ | with_reducible refine Ret.neg (Int.lt_irrefl _) ?_ | with_reducible refine Ret.ite (fun _ => ?_) (fun _ => ?_) | with_reducible refine Ret.idx ?_ ?_ ?_ | with_reducible refine Ret.chk ?_ ?_ | with_reducible refine hn3 ?_ | with_reducible refine hn2 ?_ | with_reducible refine hn1 ?_ | with_reducible refine hn3 _ ?_ | with_reducible refine hn2 _ ?_ | with_reducible refine hn1 _ ?_ | with_reducible refine Ret.some ?_))
        all_goals (try ((fail_if_success (with_reducible refine Ret.probe ?_)); grind [Shape, CompOk]))
      · intro next hp2
        (repeat' (first | with_reducible refine Ret.pos ‹_› ?_ | with_reducible refine Ret.neg ‹_› ?_ | with_reducible refine Ret.neg (Int.lt_irrefl _) ?_ | with_reducible refine Ret.ite (fun _ => ?_) (fun _ => ?_) | with_reducible refine Ret.idx ?_ ?_ ?_ | with_reducible refine Ret.chk ?_ ?_ | with_reducible refine hn3 ?_ | with_reducible refine hn2 ?_ | with_reducible refine hn1 ?_ | with_reducible refine hn3 _ ?_ | with_reducible refine hn2 _ ?_ | with_reducible refine hn1 _ ?_ | with_reducible refine Ret.some ?_))
        all_goals (try ((fail_if_success (with_reducible refine Ret.probe ?_)); grind))
    · intro next hp
      (repeat' (first | with_reducible refine Ret.pos ‹_› ?_ | with_reducible refine Ret.neg ‹_› ?_ | with_reducible refine Ret.neg (Int.lt_irrefl _) ?_ | with_reducible refine Ret.ite (fun _ => ?_) (fun _ => ?_) | with_reducible refine Ret.idx ?_ ?_ ?_ | with_reducible refine Ret.chk ?_ ?_ | with_reducible refine hn3 ?_ | with_reducible refine hn2 ?_ | with_reducible refine hn1 ?_ | with_reducible refine hn3 _ ?_ | with_reducible refine hn2 _ ?_ | with_reducible refine hn1 _ ?_ | with_reducible refine Ret.some ?_))
      all_goals (try ((fail_if_success (with_reducible refine Ret.probe ?_)); grind [Shape]))

theorem ends_eq {c : XCategory} {y : Int} (h0 : 0 ≤ y) (h1 : y < (c.From.length : Int)) (h2 : y < (c.To.length : Int)) : M.impl_Category_ends c y = some ⟨el c.From y, el c.To y⟩ := by
  unfold M.impl_Category_ends
  rw [idx_el h0 h1, idx_el h0 h2]; rfl

theorem isShape_eq {c : XCategory} (h : SmallC c) : M.impl_Category_isShape c = some (decide (Shape c)) := by
  apply Ret.ask
  obtain ⟨s1, s2, s3, s4, s5⟩ := h
  unfold M.impl_Category_isShape M.impl_Category_arrows
  have hw : IntKind.i64.wrap ((c.From.length : Int) - 1) = (c.From.length : Int) - 1 := wrap_in (by omega) (by omega)
  simp only [decide_eq_true_eq, bne_iff_ne, ne_eq, Option.bind_some, hw]
  (repeat' (first | with_reducible refine Ret.pos ‹_› ?_ | with_reducible refine Ret.neg ‹_› ?_ | with_reducible refine Ret.neg (Int.lt_irrefl _) ?_ | with_reducible refine Ret.ite (fun _ => ?_) (fun _ => ?_) | with_reducible refine Ret.idx ?_ ?_ ?_ | with_reducible refine Ret.chk ?_ ?_ | with_reducible refine hn3 ?_ | with_reducible refine hn2 ?_ | with_reducible refine hn1 ?_ | with_reducible refine hn3 _ ?_ | with_reducible refine hn2 _ ?_ | with_reducible refine hn1 _ ?_ | with_reducible refine Ret.call (inRange_eq _ _ _) ?_ | with_reducible refine Ret.call (within_eq ?_ ?_ ?_) ?_ | with_reducible refine Ret.some ?_))
  all_goals (try ((fail_if_success (with_reducible refine Ret.probe ?_)); grind [Shape]))
  refine Ret.all (c.Identity.length : Int) (fun i => el c.From (el c.Identity i) = i ∧ el c.To (el c.Identity i) = i) ?_ ?_ ?_ ?_
  · grind
  · grind
  · intro i next hi0 hi1 hp hn1
    (repeat' (first | with_reducible refine Ret.pos ‹_› ?_ | with_reducible refine Ret.neg ‹_› ?_ | with_reducible refine Ret.neg (Int.lt_irrefl _) ?_ | with_reducible refine Ret.ite (fun _ => ?_) (fun _ => ?_) | with_reducible refine Ret.idx ?_ ?_ ?_ | with_reducible refine Ret.chk ?_ ?_ | with_reducible refine hn3 ?_ | with_reducible refine hn2 ?_ | with_reducible refine hn1 ?_ | with_reducible refine hn3 _ ?_ | with_reducible refine hn2 _ ?_ | with_reducible refine hn1 _ ?_ | with_reducible refine Ret.call (ends_eq ?_ ?_ ?_) ?_ | with_reducible refine Ret.some ?_))
    all_goals (try ((fail_if_success (with_reducible refine Ret.probe ?_)); grind [Shape]))
  · intro next hpI
    (repeat' (first | with_reducible refine Ret.pos ‹_› ?_ | with_reducible refine Ret.neg ‹_› ?_ | with_reducible refine Ret.neg (Int.lt_irrefl _) ?_ | with_reducible refine Ret.ite (fun _ => ?_) (fun _ => ?_) | with_reducible refine Ret.idx ?_ ?_ ?_ | with_reducible refine Ret.chk ?_ ?_ | with_reducible refine hn3 ?_ | with_reducible refine hn2 ?_ | with_reducible refine hn1 ?_ | with_reducible refine hn3 _ ?_ | with_reducible refine hn2 _ ?_ | with_reducible refine hn1 _ ?_ | with_reducible refine Ret.some ?_))
    all_goals (try ((fail_if_success (with_reducible refine Ret.probe ?_)); grind))
    refine Ret.all (c.Composites.length : Int) (fun i => ((el c.Composites i).length : Int) = (c.From.length : Int) ∧ ∀ j, 0 ≤ j → j < (c.From.length : Int) → CompOk c i j) (by omega) (by omega) ?_ ?_
    · intro i next hi0 hi1 hp hn1
      (repeat' (first | with_reducible refine Ret.pos ‹_› ?_ | with_reducible refine Ret.neg ‹_› ?_ | with_reducible refine Ret.neg (Int.lt_irrefl _) ?_ | with_reducible refine Ret.ite (fun _ => ?_) (fun _ => ?_) | with_reducible refine Ret.idx ?_ ?_ ?_ | with_reducible refine Ret.chk ?_ ?_ | with_reducible refine hn3 ?_ | with_reducible refine hn2 ?_ | with_reducible refine hn1 ?_ | with_reducible refine hn3 _ ?_ | with_reducible refine hn2 _ ?_ | with_reducible refine hn1 _ ?_ | with_reducible refine Ret.some ?_))
      all_goals (try ((fail_if_success (with_reducible refine Ret.probe ?_)); grind [Shape]))
      refine Ret.all ((el c.Composites i).length : Int) (fun j => CompOk c i j) (by omega) (by omega) ?_ ?_
      · intro j next hj0 hj1 hp2 hn2
        (repeat' (first | with_reducible refine Ret.pos ‹_› ?_ | with_reducible refine Ret.neg ‹_› ?_ | with_reducible refine Ret.neg (Int.lt_irrefl _) ?_ | with_reducible refine Ret.ite (fun _ => ?_) (fun _ => ?_) | with_reducible refine Ret.idx ?_ ?_ ?_ | with_reducible refine Ret.chk ?_ ?_ | with_reducible refine hn3 ?_ | with_reducible refine hn2 ?_ | with_reducible refine hn1 ?_ | with_reducible refine hn3 _ ?_ | with_reducible refine hn2 _ ?_ | with_reducible refine hn1 _ ?_ | with_reducible refine Ret.call (inRange_eq _ _ _) ?_ | with_reducible refine Ret.call (ends_eq ?_ ?_ ?_) ?_ | with_reducible refine Ret.some ?_))
        all_goals (try ((fail_if_success (with_reducible refine Ret.probe ?_)); grind [Shape, CompOk]))
      · intro next hp2
        (repeat' (first | with_reducible refine Ret.pos ‹_› ?_ | with_reducible refine Ret.neg ‹_› ?_ | with_reducible refine Ret.neg (Int.lt_irrefl _) ?_ | with_reducible refine Ret.ite (fun _ => ?_) (fun _ => ?_) | with_reducible refine Ret.idx ?_ ?_ ?_ | with_reducible refine Ret.chk ?_ ?_ | with_reducible refine hn3 ?_ | with_reducible refine hn2 ?_ | with_reducible refine hn1 ?_ | with_reducible refine hn3 _ ?_ | with_reducible refine hn2 _ ?_ | with_reducible refine hn1 _ ?_ | with_reducible refine Ret.some ?_))
        all_goals (try ((fail_if_success (with_reducible refine Ret.probe ?_)); grind))
    · intro next hp
      (repeat' (first | with_reducible refine Ret.pos ‹_› ?_ | with_reducible refine Ret.neg ‹_› ?_ | with_reducible refine Ret.neg (Int.lt_irrefl _) ?_ | with_reducible refine Ret.ite (fun _ => ?_) (fun _ => ?_) | with_reducible refine Ret.idx ?_ ?_ ?_ | with_reducible refine Ret.chk ?_ ?_ | with_reducible refine hn3 ?_ | with_reducible refine hn2 ?_ | with_reducible refine hn1 ?_ | with_reducible refine hn3 _ ?_ | with_reducible refine hn2 _ ?_ | with_reducible refine hn1 _ ?_ | with_reducible refine Ret.some ?_))
      rename_i b1 b2 b3 b4 b5 b6 b7 b8 nx
      simp only [Bool.and_eq_true, decide_eq_true_eq, Decidable.not_not] at b1 b2 b3 b4 b5 b6 b7 b8
      exact ⟨fun _ => ⟨b1.1, b1.2, by omega, b3, b6, b8, b4, b5, b7, fun i h0 h1 => hpI i h0 (by omega), fun i h0 h1 => hp i h0 (by omega)⟩, fun _ => rfl⟩

end Go.Gx

/- Plain laws: the laws of a category, and functors. -/
namespace Go.Gx
open Classical
set_option maxHeartbeats 4000000

def NoFault (c : XCategory) : Prop :=
  (∀ f, 0 ≤ f → f < (c.From.length : Int) → cmp c (el c.Identity (el c.From f)) f = f ∧ cmp c f (el c.Identity (el c.To f)) = f) ∧
  (∀ f g h, 0 ≤ f → f < (c.From.length : Int) → 0 ≤ g → g < (c.From.length : Int) → 0 ≤ h → h < (c.From.length : Int) → el c.To f = el c.From g → el c.To g = el c.From h →
    cmp c (cmp c f g) h = cmp c f (cmp c g h))

/-- The parts of a shape, ready to be used. -/
structure Shp (c : XCategory) : Prop where
  n0 : 0 ≤ c.Objects
  n8 : c.Objects ≤ 8
  m40 : (c.From.length : Int) ≤ 40
  lto : (c.To.length : Int) = (c.From.length : Int)
  lid : (c.Identity.length : Int) = c.Objects
  lco : (c.Composites.length : Int) = (c.From.length : Int)
  from_in : ∀ i, 0 ≤ i → i < (c.From.length : Int) → 0 ≤ el c.From i ∧ el c.From i < c.Objects
  to_in : ∀ i, 0 ≤ i → i < (c.From.length : Int) → 0 ≤ el c.To i ∧ el c.To i < c.Objects
  id_in : ∀ i, 0 ≤ i → i < c.Objects → 0 ≤ el c.Identity i ∧ el c.Identity i < (c.From.length : Int)
  id_from : ∀ i, 0 ≤ i → i < c.Objects → el c.From (el c.Identity i) = i
  id_to : ∀ i, 0 ≤ i → i < c.Objects → el c.To (el c.Identity i) = i
  row : ∀ i, 0 ≤ i → i < (c.From.length : Int) → ((el c.Composites i).length : Int) = (c.From.length : Int)
  no : ∀ i j, 0 ≤ i → i < (c.From.length : Int) → 0 ≤ j → j < (c.From.length : Int) → el c.To i ≠ el c.From j → cmp c i j = -1
  yes : ∀ i j, 0 ≤ i → i < (c.From.length : Int) → 0 ≤ j → j < (c.From.length : Int) → el c.To i = el c.From j → 0 ≤ cmp c i j ∧ cmp c i j < (c.From.length : Int)
  cfrom : ∀ i j, 0 ≤ i → i < (c.From.length : Int) → 0 ≤ j → j < (c.From.length : Int) → el c.To i = el c.From j → el c.From (cmp c i j) = el c.From i
  cto : ∀ i j, 0 ≤ i → i < (c.From.length : Int) → 0 ≤ j → j < (c.From.length : Int) → el c.To i = el c.From j → el c.To (cmp c i j) = el c.To j

theorem Shape.shp {c : XCategory} (h : Shape c) : Shp c := by
  obtain ⟨h1, h2, h3, h4, h5, h6, h7, h8, h9, h10, h11⟩ := h
  refine ⟨h1, h2, h3, h4, h5, h6, h7, fun i h0 hi => h8 i h0 (by omega), fun i h0 hi => h9 i h0 (by omega), fun i h0 hi => (h10 i h0 hi).1, fun i h0 hi => (h10 i h0 hi).2, fun i h0 hi => (h11 i h0 hi).1, ?_, ?_, ?_, ?_⟩
  · intro i j hi0 hi1 hj0 hj1 hne
    exact ((h11 i hi0 hi1).2 j hj0 hj1).1 hne
  · intro i j hi0 hi1 hj0 hj1 he
    have := ((h11 i hi0 hi1).2 j hj0 hj1).2 he
    exact ⟨this.1, this.2.1⟩
  · intro i j hi0 hi1 hj0 hj1 he
    exact (((h11 i hi0 hi1).2 j hj0 hj1).2 he).2.2.1
  · intro i j hi0 hi1 hj0 hj1 he
    exact (((h11 i hi0 hi1).2 j hj0 hj1).2 he).2.2.2

theorem Shp.small {c : XCategory} (h : Shp c) : SmallC c := by
  obtain ⟨h1, h2, h3, h4, h5, h6, h7, h8, h9, h10, h11, h12, h13, h14, h15, h16⟩ := h
  refine ⟨by omega, by omega, by omega, by omega, fun r hr => ?_⟩
  obtain ⟨i, h0, h1', rfl⟩ := mem_el hr
  have := h12 i h0 (by omega)
  omega

theorem then_eq {c : XCategory} {i j : Int} (h0 : 0 ≤ i) (h1 : i < (c.Composites.length : Int)) (h2 : 0 ≤ j) (h3 : j < ((el c.Composites i).length : Int)) : M.impl_Category_then c i j = some (cmp c i j) := by
  unfold M.impl_Category_then
  rw [idx_el h0 h1]
  show (idx (el c.Composites i) j).bind _ = _
  rw [idx_el h2 h3]; rfl

theorem l02Fault_r {c : XCategory} (h : Shp c) : Ret (M.spec_l02Fault c) fun r => r.1 = 0 ↔ NoFault c := by
  obtain ⟨h1, h2, h3, h4, h5, h6, h7, h8, h9, h10, h11, h12, h13, h14, h15, h16⟩ := h
  unfold M.spec_l02Fault
  simp only [decide_eq_true_eq, beq_iff_eq, bne_iff_ne, ne_eq]
  refine Ret.all (c.From.length : Int) (fun f => cmp c (el c.Identity (el c.From f)) f = f ∧ cmp c f (el c.Identity (el c.To f)) = f) (by omega) (by omega) ?_ ?_
  · intro i next hi0 hi1 hp hn1
    have := h7 i hi0 hi1
    have := h8 i hi0 hi1
    have hno : ¬ (cmp c (el c.Identity (el c.From i)) i = i ∧ cmp c i (el c.Identity (el c.To i)) = i) → ¬ NoFault c := fun hx hN => hx (hN.1 i hi0 hi1)
    (repeat' (first | with_reducible refine Ret.pos ‹_› ?_ | with_reducible refine Ret.neg ‹_› ?_ | with_reducible refine Ret.neg (Int.lt_irrefl _) ?_ | with_reducible refine Ret.ite (fun _ => ?_) (fun _ => ?_) | with_reducible refine Ret.idx ?_ ?_ ?_ | with_reducible refine Ret.chk ?_ ?_ | with_reducible refine hn3 ?_ | with_reducible refine hn2 ?_ | with_reducible refine hn1 ?_ | with_reducible refine hn3 _ ?_ | with_reducible refine hn2 _ ?_ | with_reducible refine hn1 _ ?_ | with_reducible refine Ret.some ?_))
    all_goals (try ((fail_if_success (with_reducible refine Ret.probe ?_)); grind))
  · intro next hpI
    (repeat' (first | with_reducible refine Ret.pos ‹_› ?_ | with_reducible refine Ret.neg ‹_› ?_ | with_reducible refine Ret.neg (Int.lt_irrefl _) ?_ | with_reducible refine Ret.ite (fun _ => ?_) (fun _ => ?_) | with_reducible refine Ret.idx ?_ ?_ ?_ | with_reducible refine Ret.chk ?_ ?_ | with_reducible refine hn3 ?_ | with_reducible refine hn2 ?_ | with_reducible refine hn1 ?_ | with_reducible refine hn3 _ ?_ | with_reducible refine hn2 _ ?_ | with_reducible refine hn1 _ ?_ | with_reducible refine Ret.some ?_))
    all_goals (try ((fail_if_success (with_reducible refine Ret.probe ?_)); grind))
    refine Ret.all (c.From.length : Int) (fun f => ∀ g h, 0 ≤ g → g < (c.From.length : Int) → 0 ≤ h → h < (c.From.length : Int) → el c.To f = el c.From g → el c.To g = el c.From h → cmp c (cmp c f g) h = cmp c f (cmp c g h)) (by omega) (by omega) ?_ ?_
    · intro f next hf0 hf1 hp hn1
      (repeat' (first | with_reducible refine Ret.pos ‹_› ?_ | with_reducible refine Ret.neg ‹_› ?_ | with_reducible refine Ret.neg (Int.lt_irrefl _) ?_ | with_reducible refine Ret.ite (fun _ => ?_) (fun _ => ?_) | with_reducible refine Ret.idx ?_ ?_ ?_ | with_reducible refine Ret.chk ?_ ?_ | with_reducible refine hn3 ?_ | with_reducible refine hn2 ?_ | with_reducible refine hn1 ?_ | with_reducible refine hn3 _ ?_ | with_reducible refine hn2 _ ?_ | with_reducible refine hn1 _ ?_ | with_reducible refine Ret.some ?_))
      all_goals (try ((fail_if_success (with_reducible refine Ret.probe ?_)); grind))
      refine Ret.all (c.From.length : Int) (fun g => ∀ h, 0 ≤ h → h < (c.From.length : Int) → el c.To f = el c.From g → el c.To g = el c.From h → cmp c (cmp c f g) h = cmp c f (cmp c g h)) (by omega) (by omega) ?_ ?_
      · intro g next hg0 hg1 hp2 hn2
        (repeat' (first | with_reducible refine Ret.pos ‹_› ?_ | with_reducible refine Ret.neg ‹_› ?_ | with_reducible refine Ret.neg (Int.lt_irrefl _) ?_ | with_reducible refine Ret.ite (fun _ => ?_) (fun _ => ?_) | with_reducible refine Ret.idx ?_ ?_ ?_ | with_reducible refine Ret.chk ?_ ?_ | with_reducible refine hn3 ?_ | with_reducible refine hn2 ?_ | with_reducible refine hn1 ?_ | with_reducible refine hn3 _ ?_ | with_reducible refine hn2 _ ?_ | with_reducible refine hn1 _ ?_ | with_reducible refine Ret.some ?_))
        all_goals (try ((fail_if_success (with_reducible refine Ret.probe ?_)); grind))
        refine Ret.all (c.From.length : Int) (fun h => el c.To f = el c.From g → el c.To g = el c.From h → cmp c (cmp c f g) h = cmp c f (cmp c g h)) (by omega) (by omega) ?_ ?_
        · intro h next hh0 hh1 hp3 hn3
          have hno : ¬ (el c.To f = el c.From g → el c.To g = el c.From h → cmp c (cmp c f g) h = cmp c f (cmp c g h)) → ¬ NoFault c := fun hx hN => hx (hN.2 f g h hf0 hf1 hg0 hg1 hh0 hh1)
          (repeat' (first | with_reducible refine Ret.pos ‹_› ?_ | with_reducible refine Ret.neg ‹_› ?_ | with_reducible refine Ret.neg (Int.lt_irrefl _) ?_ | with_reducible refine Ret.ite (fun _ => ?_) (fun _ => ?_) | with_reducible refine Ret.idx ?_ ?_ ?_ | with_reducible refine Ret.chk ?_ ?_ | with_reducible refine hn3 ?_ | with_reducible refine hn2 ?_ | with_reducible refine hn1 ?_ | with_reducible refine hn3 _ ?_ | with_reducible refine hn2 _ ?_ | with_reducible refine hn1 _ ?_ | with_reducible refine Ret.some ?_))
          all_goals (try ((fail_if_success (with_reducible refine Ret.probe ?_)); grind))
        · intro next hp3
          (repeat' (first | with_reducible refine Ret.pos ‹_› ?_ | with_reducible refine Ret.neg ‹_› ?_ | with_reducible refine Ret.neg (Int.lt_irrefl _) ?_ | with_reducible refine Ret.ite (fun _ => ?_) (fun _ => ?_) | with_reducible refine Ret.idx ?_ ?_ ?_ | with_reducible refine Ret.chk ?_ ?_ | with_reducible refine hn3 ?_ | with_reducible refine hn2 ?_ | with_reducible refine hn1 ?_ | with_reducible refine hn3 _ ?_ | with_reducible refine hn2 _ ?_ | with_reducible refine hn1 _ ?_ | with_reducible refine Ret.some ?_))
          all_goals (try ((fail_if_success (with_reducible refine Ret.probe ?_)); grind))
      · intro next hp2
        (repeat' (first | with_reducible refine Ret.pos ‹_› ?_ | with_reducible refine Ret.neg ‹_› ?_ | with_reducible refine Ret.neg (Int.lt_irrefl _) ?_ | with_reducible refine Ret.ite (fun _ => ?_) (fun _ => ?_) | with_reducible refine Ret.idx ?_ ?_ ?_ | with_reducible refine Ret.chk ?_ ?_ | with_reducible refine hn3 ?_ | with_reducible refine hn2 ?_ | with_reducible refine hn1 ?_ | with_reducible refine hn3 _ ?_ | with_reducible refine hn2 _ ?_ | with_reducible refine hn1 _ ?_ | with_reducible refine Ret.some ?_))
        all_goals (try ((fail_if_success (with_reducible refine Ret.probe ?_)); grind))
    · intro next hp
      (repeat' (first | with_reducible refine Ret.pos ‹_› ?_ | with_reducible refine Ret.neg ‹_› ?_ | with_reducible refine Ret.neg (Int.lt_irrefl _) ?_ | with_reducible refine Ret.ite (fun _ => ?_) (fun _ => ?_) | with_reducible refine Ret.idx ?_ ?_ ?_ | with_reducible refine Ret.chk ?_ ?_ | with_reducible refine hn3 ?_ | with_reducible refine hn2 ?_ | with_reducible refine hn1 ?_ | with_reducible refine hn3 _ ?_ | with_reducible refine hn2 _ ?_ | with_reducible refine hn1 _ ?_ | with_reducible refine Ret.some ?_))
      exact ⟨fun _ => ⟨hpI, fun f g h a1 a2 a3 a4 a5 a6 => hp f a1 a2 g h a3 a4 a5 a6⟩, fun _ => rfl⟩

theorem fault_r {c : XCategory} (h : Shp c) : Ret (M.impl_Category_fault c) fun r => r.1 = 0 ↔ NoFault c := by
  obtain ⟨h1, h2, h3, h4, h5, h6, h7, h8, h9, h10, h11, h12, h13, h14, h15, h16⟩ := h
  unfold M.impl_Category_fault M.impl_Category_arrows
  simp only [decide_eq_true_eq, bne_iff_ne, ne_eq, Option.bind_some]
  refine Ret.all (c.From.length : Int) (fun f => cmp c (el c.Identity (el c.From f)) f = f ∧ cmp c f (el c.Identity (el c.To f)) = f) (by omega) (by omega) ?_ ?_
  · intro i next hi0 hi1 hp hn1
    have := h7 i hi0 hi1
    have := h8 i hi0 hi1
    have hno : ¬ (cmp c (el c.Identity (el c.From i)) i = i ∧ cmp c i (el c.Identity (el c.To i)) = i) → ¬ NoFault c := fun hx hN => hx (hN.1 i hi0 hi1)
    (repeat' (first | with_reducible refine Ret.pos ‹_› ?_ | with_reducible refine Ret.neg ‹_› ?_ | with_reducible refine Ret.neg (Int.lt_irrefl _) ?_ | with_reducible refine Ret.ite (fun _ => ?_) (fun _ => ?_) | with_reducible refine Ret.idx ?_ ?_ ?_ | with_reducible refine Ret.chk ?_ ?_ | with_reducible refine hn3 ?_ | with_reducible refine hn2 ?_ | with_reducible refine hn1 ?_ | with_reducible refine hn3 _ ?_ | with_reducible refine hn2 _ ?_ | with_reducible refine hn1 _ ?_ | with_reducible refine Ret.call (then_eq ?_ ?_ ?_ ?_) ?_ | with_reducible refine Ret.some ?_))
    all_goals (try ((fail_if_success (with_reducible refine Ret.probe ?_)); grind))
  · intro next hpI
    (repeat' (first | with_reducible refine Ret.pos ‹_› ?_ | with_reducible refine Ret.neg ‹_› ?_ | with_reducible refine Ret.neg (Int.lt_irrefl _) ?_ | with_reducible refine Ret.ite (fun _ => ?_) (fun _ => ?_) | with_reducible refine Ret.idx ?_ ?_ ?_ | with_reducible refine Ret.chk ?_ ?_ | with_reducible refine hn3 ?_ | with_reducible refine hn2 ?_ | with_reducible refine hn1 ?_ | with_reducible refine hn3 _ ?_ | with_reducible refine hn2 _ ?_ | with_reducible refine hn1 _ ?_ | with_reducible refine Ret.some ?_))
    all_goals (try ((fail_if_success (with_reducible refine Ret.probe ?_)); grind))
    refine Ret.all (c.From.length : Int) (fun f => ∀ g h, 0 ≤ g → g < (c.From.length : Int) → 0 ≤ h → h < (c.From.length : Int) → el c.To f = el c.From g → el c.To g = el c.From h → cmp c (cmp c f g) h = cmp c f (cmp c g h)) (by omega) (by omega) ?_ ?_
    · intro f next hf0 hf1 hp hn1
      (repeat' (first | with_reducible refine Ret.pos ‹_› ?_ | with_reducible refine Ret.neg ‹_› ?_ | with_reducible refine Ret.neg (Int.lt_irrefl _) ?_ | with_reducible refine Ret.ite (fun _ => ?_) (fun _ => ?_) | with_reducible refine Ret.idx ?_ ?_ ?_ | with_reducible refine Ret.chk ?_ ?_ | with_reducible refine hn3 ?_ | with_reducible refine hn2 ?_ | with_reducible refine hn1 ?_ | with_reducible refine hn3 _ ?_ | with_reducible refine hn2 _ ?_ | with_reducible refine hn1 _ ?_ | with_reducible refine Ret.some ?_))
      all_goals (try ((fail_if_success (with_reducible refine Ret.probe ?_)); grind))
      refine Ret.all (c.From.length : Int) (fun g => ∀ h, 0 ≤ h → h < (c.From.length : Int) → el c.To f = el c.From g → el c.To g = el c.From h → cmp c (cmp c f g) h = cmp c f (cmp c g h)) (by omega) (by omega) ?_ ?_
      · intro g next hg0 hg1 hp2 hn2
        have := h13 f g hf0 hf1 hg0 hg1
        have := h14 f g hf0 hf1 hg0 hg1
        (repeat' (first | with_reducible refine Ret.pos ‹_› ?_ | with_reducible refine Ret.neg ‹_› ?_ | with_reducible refine Ret.neg (Int.lt_irrefl _) ?_ | with_reducible refine Ret.ite (fun _ => ?_) (fun _ => ?_) | with_reducible refine Ret.idx ?_ ?_ ?_ | with_reducible refine Ret.chk ?_ ?_ | with_reducible refine hn3 ?_ | with_reducible refine hn2 ?_ | with_reducible refine hn1 ?_ | with_reducible refine hn3 _ ?_ | with_reducible refine hn2 _ ?_ | with_reducible refine hn1 _ ?_ | with_reducible refine Ret.call (then_eq ?_ ?_ ?_ ?_) ?_ | with_reducible refine Ret.some ?_))
        all_goals (try ((fail_if_success (with_reducible refine Ret.probe ?_)); grind))
        refine Ret.all (c.From.length : Int) (fun h => el c.To f = el c.From g → el c.To g = el c.From h → cmp c (cmp c f g) h = cmp c f (cmp c g h)) (by omega) (by omega) ?_ ?_
        · intro h next hh0 hh1 hp3 hn3
          have := h13 g h hg0 hg1 hh0 hh1
          have := h14 g h hg0 hg1 hh0 hh1
          have hno : ¬ (el c.To f = el c.From g → el c.To g = el c.From h → cmp c (cmp c f g) h = cmp c f (cmp c g h)) → ¬ NoFault c := fun hx hN => hx (hN.2 f g h hf0 hf1 hg0 hg1 hh0 hh1)
          (repeat' (first | with_reducible refine Ret.pos ‹_› ?_ | with_reducible refine Ret.neg ‹_› ?_ | with_reducible refine Ret.neg (Int.lt_irrefl _) ?_ | with_reducible refine Ret.ite (fun _ => ?_) (fun _ => ?_) | with_reducible refine Ret.idx ?_ ?_ ?_ | with_reducible refine Ret.chk ?_ ?_ | with_reducible refine hn3 ?_ | with_reducible refine hn2 ?_ | with_reducible refine hn1 ?_ | with_reducible refine hn3 _ ?_ | with_reducible refine hn2 _ ?_ | with_reducible refine hn1 _ ?_ | with_reducible refine Ret.call (then_eq ?_ ?_ ?_ ?_) ?_ | with_reducible refine Ret.some ?_))
          all_goals (try ((fail_if_success (with_reducible refine Ret.probe ?_)); grind))
        · intro next hp3
          (repeat' (first | with_reducible refine Ret.pos ‹_› ?_ | with_reducible refine Ret.neg ‹_› ?_ | with_reducible refine Ret.neg (Int.lt_irrefl _) ?_ | with_reducible refine Ret.ite (fun _ => ?_) (fun _ => ?_) | with_reducible refine Ret.idx ?_ ?_ ?_ | with_reducible refine Ret.chk ?_ ?_ | with_reducible refine hn3 ?_ | with_reducible refine hn2 ?_ | with_reducible refine hn1 ?_ | with_reducible refine hn3 _ ?_ | with_reducible refine hn2 _ ?_ | with_reducible refine hn1 _ ?_ | with_reducible refine Ret.some ?_))
          all_goals (try ((fail_if_success (with_reducible refine Ret.probe ?_)); grind))
      · intro next hp2
        (repeat' (first | with_reducible refine Ret.pos ‹_› ?_ | with_reducible refine Ret.neg ‹_› ?_ | with_reducible refine Ret.neg (Int.lt_irrefl _) ?_ | with_reducible refine Ret.ite (fun _ => ?_) (fun _ => ?_) | with_reducible refine Ret.idx ?_ ?_ ?_ | with_reducible refine Ret.chk ?_ ?_ | with_reducible refine hn3 ?_ | with_reducible refine hn2 ?_ | with_reducible refine hn1 ?_ | with_reducible refine hn3 _ ?_ | with_reducible refine hn2 _ ?_ | with_reducible refine hn1 _ ?_ | with_reducible refine Ret.some ?_))
        all_goals (try ((fail_if_success (with_reducible refine Ret.probe ?_)); grind))
    · intro next hp
      (repeat' (first | with_reducible refine Ret.pos ‹_› ?_ | with_reducible refine Ret.neg ‹_› ?_ | with_reducible refine Ret.neg (Int.lt_irrefl _) ?_ | with_reducible refine Ret.ite (fun _ => ?_) (fun _ => ?_) | with_reducible refine Ret.idx ?_ ?_ ?_ | with_reducible refine Ret.chk ?_ ?_ | with_reducible refine hn3 ?_ | with_reducible refine hn2 ?_ | with_reducible refine hn1 ?_ | with_reducible refine hn3 _ ?_ | with_reducible refine hn2 _ ?_ | with_reducible refine hn1 _ ?_ | with_reducible refine Ret.some ?_))
      exact ⟨fun _ => ⟨hpI, fun f g h a1 a2 a3 a4 a5 a6 => hp f a1 a2 g h a3 a4 a5 a6⟩, fun _ => rfl⟩

def IsCat (c : XCategory) : Prop := Shape c ∧ NoFault c

theorem l02Is_eq {c : XCategory} (h : SmallC c) : M.spec_l02Is c = some (decide (IsCat c)) := by
  apply Ret.ask
  unfold M.spec_l02Is
  refine Ret.call (IsShape_eq h) ?_
  simp only [decide_eq_true_eq]
  refine Ret.ite (fun hs => ?_) (fun hs => ?_)
  · refine Ret.bind (l02Fault_r hs.shp) fun r hr => Ret.some ?_
    rw [beq_iff_eq, hr]
    exact ⟨fun x => ⟨hs, x⟩, fun x => x.2⟩
  · refine Ret.some ?_
    simp only [Bool.false_eq_true, false_iff]
    exact fun x => hs x.1

theorem isCategory_eq {c : XCategory} (h : SmallC c) : M.impl_Category_isCategory c = some (decide (IsCat c)) := by
  apply Ret.ask
  unfold M.impl_Category_isCategory
  refine Ret.call (isShape_eq h) ?_
  simp only [decide_eq_true_eq]
  refine Ret.ite (fun hs => ?_) (fun hs => ?_)
  · refine Ret.bind (fault_r hs.shp) fun r hr => Ret.some ?_
    rw [beq_iff_eq, hr]
    exact ⟨fun x => ⟨hs, x⟩, fun x => x.2⟩
  · refine Ret.some ?_
    simp only [Bool.false_eq_true, false_iff]
    exact fun x => hs x.1

end Go.Gx

/- Plain laws: functors. -/
namespace Go.Gx
open Classical
set_option maxHeartbeats 4000000

/-! ### functors -/

structure FunOk (f : XFunctor) : Prop where
  lo : (f.Objects.length : Int) = f.Source.Objects
  la : (f.Arrows.length : Int) = (f.Source.From.length : Int)
  ino : In f.Target.Objects f.Objects
  ina : In (f.Target.From.length : Int) f.Arrows
  afrom : ∀ a, 0 ≤ a → a < (f.Source.From.length : Int) → el f.Target.From (el f.Arrows a) = el f.Objects (el f.Source.From a)
  ato : ∀ a, 0 ≤ a → a < (f.Source.From.length : Int) → el f.Target.To (el f.Arrows a) = el f.Objects (el f.Source.To a)
  aid : ∀ x, 0 ≤ x → x < f.Source.Objects → el f.Arrows (el f.Source.Identity x) = el f.Target.Identity (el f.Objects x)
  acmp : ∀ a b, 0 ≤ a → a < (f.Source.From.length : Int) → 0 ≤ b → b < (f.Source.From.length : Int) → el f.Source.To a = el f.Source.From b →
    el f.Arrows (cmp f.Source a b) = cmp f.Target (el f.Arrows a) (el f.Arrows b)

def IsFun (f : XFunctor) : Prop := IsCat f.Source ∧ IsCat f.Target ∧ FunOk f

end Go.Gx

/- Plain laws: what is marked is held. -/
namespace Go.Gx
set_option maxHeartbeats 1000000

theorem fitsC {c : XCategory} (h : R.XCategory c) : FitsC c := ⟨h.2.1.1, h.2.2.1.1, h.2.2.2.1.1, h.2.2.2.2.1, fun r hr => (h.2.2.2.2.2 r hr).1⟩
def zeroF : XFunctor := ⟨⟨0, [], [], [], []⟩, ⟨0, [], [], [], []⟩, [], []⟩
end Go.Gx

/- Plain laws: lists after each other; transformations: copies, marks. -/
namespace Go.Gx
open Classical
set_option maxHeartbeats 1000000

def thenL (a b : List Int) : List Int := tab (a.length : Int) fun i => el b (el a i)

structure SmallT (t : XTransformation) : Prop where
  s1 : SmallF t.Source
  s2 : SmallF t.Target
  s3 : Small t.Components

def zeroT : XTransformation := ⟨zeroF, zeroF, []⟩
end Go.Gx

/- Plain laws: sameness; natural transformations; functors after each other. -/
namespace Go.Gx
open Classical
set_option maxHeartbeats 4000000

instance : Inhabited XFunctor := ⟨zeroF⟩
instance : Inhabited XTransformation := ⟨zeroT⟩

/-! ### sizes -/
structure FitsT (t : XTransformation) : Prop where
  f1 : FitsF t.Source
  f2 : FitsF t.Target
  f3 : Fits t.Components
/-! ### the same -/
theorem l01Same_eq {a b : List Int} (ha : Small a) (_ : Small b) : M.spec_l01Same a b = some (decide (a = b)) := by
  apply Ret.ask
  unfold M.spec_l01Same
  simp only [decide_eq_true_eq, bne_iff_ne, ne_eq]
  refine Ret.ite (fun h => Ret.some ?_) (fun h => ?_)
  · exact ⟨(fun h => by cases h), fun e => absurd (by rw [e]) h⟩
  · refine Ret.all (a.length : Int) (fun i => el a i = el b i) (by omega) (by omega) ?_ ?_
    · intro i next hi0 hi1 hp hn1
      rw [if_pos hi1]
      refine Ret.idx hi0 hi1 (Ret.idx hi0 (by omega) (Ret.ite (fun hne => Ret.some ?_) (fun he => hn1 (Decidable.not_not.1 he))))
      exact ⟨(fun h => by cases h), fun e => absurd (by rw [e]) hne⟩
    · intro next hp
      rw [if_neg (by omega)]
      exact Ret.some ⟨fun _ => list_ext (by omega) hp, fun _ => rfl⟩

def Par (f g : XFunctor) : Prop := f.Source = g.Source ∧ f.Target = g.Target

/-! ### lists of functors -/
/-! ### natural transformations -/
def Ends (f g : XFunctor) (c : List Int) : Prop :=
  (c.length : Int) = f.Source.Objects ∧ In (f.Target.From.length : Int) c ∧ ∀ i, 0 ≤ i → i < (c.length : Int) → el f.Target.From (el c i) = el f.Objects i ∧ el f.Target.To (el c i) = el g.Objects i

def ShapeT (t : XTransformation) : Prop := IsFun t.Source ∧ IsFun t.Target ∧ Par t.Source t.Target ∧ Ends t.Source t.Target t.Components

def Sq (f g : XFunctor) (c : List Int) (a : Int) : Prop := cmp f.Target (el f.Arrows a) (el c (el f.Source.To a)) = cmp f.Target (el c (el f.Source.From a)) (el g.Arrows a)

/-- What the indices of a square need. -/
theorem ShapeT.facts {t : XTransformation} (h : ShapeT t) {a : Int} (h0 : 0 ≤ a) (h1 : a < (t.Source.Arrows.length : Int)) :
    a < (t.Source.Source.From.length : Int) ∧ a < (t.Source.Source.To.length : Int) ∧ a < (t.Target.Arrows.length : Int) ∧
    (0 ≤ el t.Source.Arrows a ∧ el t.Source.Arrows a < (t.Source.Target.From.length : Int)) ∧
    (0 ≤ el t.Target.Arrows a ∧ el t.Target.Arrows a < (t.Source.Target.From.length : Int)) ∧
    (0 ≤ el t.Source.Source.To a ∧ el t.Source.Source.To a < (t.Components.length : Int)) ∧
    (0 ≤ el t.Source.Source.From a ∧ el t.Source.Source.From a < (t.Components.length : Int)) ∧
    (0 ≤ el t.Components (el t.Source.Source.To a) ∧ el t.Components (el t.Source.Source.To a) < (t.Source.Target.From.length : Int)) ∧
    (0 ≤ el t.Components (el t.Source.Source.From a) ∧ el t.Components (el t.Source.Source.From a) < (t.Source.Target.From.length : Int)) := by
  obtain ⟨hS, hT, hp, hc⟩ := h
  have k1 := hS.1.1.shp
  have l1 := k1.lto
  have l2 := hS.2.2.la
  have l3 := hT.2.2.la
  have l4 := hT.2.2.ina a h0
  have l5 := hS.2.2.ina a h0 h1
  have p1 : t.Source.Source = t.Target.Source := hp.1
  have p2 : t.Source.Target = t.Target.Target := hp.2
  rw [← p1] at l3
  rw [← p2] at l4
  have m1 := k1.to_in a h0 (by omega)
  have m2 := k1.from_in a h0 (by omega)
  have l6 := hc.1
  have n1 := hc.2.1 (el t.Source.Source.To a) m1.1 (by omega)
  have n2 := hc.2.1 (el t.Source.Source.From a) m2.1 (by omega)
  exact ⟨by omega, by omega, by omega, l5, l4 (by omega), ⟨m1.1, by omega⟩, ⟨m2.1, by omega⟩, n1, n2⟩

def Squares (t : XTransformation) : Prop := ∀ a, 0 ≤ a → a < (t.Source.Arrows.length : Int) → Sq t.Source t.Target t.Components a

def IsNat (t : XTransformation) : Prop := ShapeT t ∧ Squares t

/-! ### functors after each other -/
def thenF (f g : XFunctor) : XFunctor := ⟨f.Source, g.Target, thenL f.Objects g.Objects, thenL f.Arrows g.Arrows⟩
/-- f ends where g begins. -/
structure Meet (f g : XFunctor) : Prop where
  o : In (g.Objects.length : Int) f.Objects
  a : In (g.Arrows.length : Int) f.Arrows

end Go.Gx

/- The law of HorizontalComposite. -/
namespace Go.Gx
open Classical
set_option maxHeartbeats 1000000

/-- Arrows composed place by place. -/
def cmpL (c : XCategory) (a b : List Int) : List Int := tab (a.length : Int) fun i => cmp c (el a i) (el b i)

/-- Two transformations beside each other. -/
def beside (s t : XTransformation) : XTransformation :=
  ⟨thenF s.Source t.Source, thenF s.Target t.Target, cmpL t.Source.Target (thenL s.Components t.Source.Arrows) (thenL s.Target.Objects t.Components)⟩

structure Next (s t : XTransformation) : Prop where
  m1 : Meet s.Source t.Source
  m2 : Meet s.Target t.Source
  m3 : Meet s.Target t.Target
  c1 : In (t.Source.Arrows.length : Int) s.Components
  c2 : In (t.Components.length : Int) s.Target.Objects
  sh : Shp t.Source.Target
  ll : (thenL s.Components t.Source.Arrows).length = (thenL s.Target.Objects t.Components).length
  i1 : In (t.Source.Target.From.length : Int) (thenL s.Components t.Source.Arrows)
  i2 : In (t.Source.Target.From.length : Int) (thenL s.Target.Objects t.Components)

end Go.Gx

/- Plain laws: the first numbers, the identity functor. -/
namespace Go.Gx
open Classical
set_option maxHeartbeats 2000000

theorem numbers_eq {n : Int} (h0 : 0 ≤ n) (h1 : n ≤ 1048576) : M.impl_numbers n = some (tab n fun j => j) := by
  apply Ret.eq
  unfold M.impl_numbers
  refine Ret.chk ⟨h0, by unfold lim; omega⟩ ?_
  have e1 : ((n.toNat : Nat) : Int) = n := by omega
  simp only [List.length_replicate, e1, decide_eq_true_eq]
  refine Ret.acc n (fun i s => s = tab n fun j => if j < i then j else 0) h0 (by omega) ?_ ?_ ?_
  · rw [rep_tab]; apply tab_congr; intro j j0 j1; rw [if_neg (by omega)]
  · rintro i s next hi0 hi1 rfl hn1
    dsimp only
    rw [if_pos hi1]
    refine Ret.idx hi0 (by rw [tab_length]; omega) (hn1 _ ?_)
    rw [set_tab hi0]
    apply tab_congr; intro j j0 j1
    by_cases hj : j = i
    · subst hj; rw [if_pos rfl, if_pos (show j < j + 1 by omega)]
    · rw [if_neg hj]
      by_cases hlt : j < i
      · rw [if_pos hlt, if_pos (show j < i + 1 by omega)]
      · rw [if_neg hlt, if_neg (show ¬ j < i + 1 by omega)]
  · rintro s next rfl
    dsimp only
    rw [if_neg (by omega)]
    refine Ret.some ?_
    apply tab_congr; intro j j0 j1; rw [if_pos j1]

end Go.Gx

/- Plain laws: the identity functor is a functor. -/
namespace Go.Gx
open Classical
set_option maxHeartbeats 1000000

end Go.Gx

/- Plain laws: functors after each other are functors; natural families. -/
namespace Go.Gx
open Classical
set_option maxHeartbeats 1000000

theorem l02Then_eq {c : XCategory} {i j : Int} (h0 : 0 ≤ i) (h1 : i < (c.Composites.length : Int)) (h2 : 0 ≤ j) (h3 : j < ((el c.Composites i).length : Int)) : M.spec_l02Then c i j = some (cmp c i j) := by
  unfold M.spec_l02Then
  rw [idx_el h0 h1]
  show (idx (el c.Composites i) j).bind _ = _
  rw [idx_el h2 h3]; rfl
/-- Two arrows that stand in the table. -/
theorem l02Then_in {c : XCategory} (hc : Shp c) {i j : Int} (h0 : 0 ≤ i ∧ i < (c.From.length : Int)) (h2 : 0 ≤ j ∧ j < (c.From.length : Int)) : M.spec_l02Then c i j = some (cmp c i j) := by
  have := hc.lco
  have := hc.row i h0.1 h0.2
  exact l02Then_eq h0.1 (by omega) h2.1 (by omega)
theorem then_in {c : XCategory} (hc : Shp c) {i j : Int} (h0 : 0 ≤ i ∧ i < (c.From.length : Int)) (h2 : 0 ≤ j ∧ j < (c.From.length : Int)) : M.impl_Category_then c i j = some (cmp c i j) := by
  have := hc.lco
  have := hc.row i h0.1 h0.2
  exact then_eq h0.1 (by omega) h2.1 (by omega)

end Go.Gx

/- Plain laws: two functors. -/
namespace Go.Gx
open Classical
set_option maxHeartbeats 1000000

/-- Small lists of small lists. -/
def SmallX (l : List (List Int)) : Prop := Small l ∧ ∀ r ∈ l, Small r
theorem SmallX.nil : SmallX [] := ⟨by simp, by simp⟩
end Go.Gx

/- Plain laws: units of a category. -/
namespace Go.Gx
open Classical
set_option maxHeartbeats 1000000

end Go.Gx

/- Plain laws: arrows with their ends. -/
namespace Go.Gx
open Classical
set_option maxHeartbeats 1000000

/-- f goes from x to y. -/
structure Ar (c : XCategory) (f x y : Int) : Prop where
  p : 0 ≤ f
  q : f < (c.From.length : Int)
  s : el c.From f = x
  t : el c.To f = y

section
variable {c : XCategory} {f g x y z w : Int}
theorem Ar.rg (h : Ar c f x y) : 0 ≤ f ∧ f < (c.From.length : Int) := ⟨h.p, h.q⟩
theorem Ar.of (h0 : 0 ≤ f) (h1 : f < (c.From.length : Int)) : Ar c f (el c.From f) (el c.To f) := ⟨h0, h1, rfl, rfl⟩
theorem Ar.src (hc : Shp c) (h : Ar c f x y) : 0 ≤ x ∧ x < c.Objects := by rw [← h.s]; exact hc.from_in f h.p h.q
theorem Ar.one (hc : Shp c) (h0 : 0 ≤ x) (h1 : x < c.Objects) : Ar c (el c.Identity x) x x :=
  have h := hc.id_in x h0 h1
  ⟨h.1, h.2, hc.id_from x h0 h1, hc.id_to x h0 h1⟩
theorem Ar.th (hc : Shp c) (a : Ar c f x y) (b : Ar c g z w) : M.spec_l02Then c f g = some (cmp c f g) := l02Then_in hc a.rg b.rg
theorem Ar.ti (hc : Shp c) (a : Ar c f x y) (b : Ar c g z w) : M.impl_Category_then c f g = some (cmp c f g) := then_in hc a.rg b.rg
theorem Ar.en (hc : Shp c) (a : Ar c f x y) : M.impl_Category_ends c f = some ⟨x, y⟩ := by
  have l := hc.lto
  have e := ends_eq (c := c) (y := f) a.p a.q (by have := a.q; omega)
  rw [a.s, a.t] at e
  exact e
end

theorem IsFun.map {F : XFunctor} (h : IsFun F) {f x y : Int} (a : Ar F.Source f x y) : Ar F.Target (el F.Arrows f) (el F.Objects x) (el F.Objects y) := by
  have la := h.2.2.la
  have i := h.2.2.ina f a.p (by have := a.q; omega)
  exact ⟨i.1, i.2, by rw [h.2.2.afrom f a.p a.q, a.s], by rw [h.2.2.ato f a.p a.q, a.t]⟩

theorem IsNat.at {t : XTransformation} (h : IsNat t) {x : Int} (x0 : 0 ≤ x) (x1 : x < t.Source.Source.Objects) :
    Ar t.Source.Target (el t.Components x) (el t.Source.Objects x) (el t.Target.Objects x) ∧ x < (t.Components.length : Int) := by
  obtain ⟨u1, u2, u3⟩ := h.1.2.2.2
  have i := u2 x x0 (by omega)
  have e := u3 x x0 (by omega)
  exact ⟨⟨i.1, i.2, e.1, e.2⟩, by omega⟩

end Go.Gx

/- Plain laws: hom sets, profunctors of functors. -/
namespace Go.Gx
open Classical
set_option maxHeartbeats 2000000

def homL (c : XCategory) (x y : Int) : List Int := fil (c.From.length : Int) fun s => el c.From s == x && el c.To s == y

theorem l02Hom_eq {c : XCategory} (h : Shp c) (x y : Int) : M.spec_l02Hom c x y = some (homL c x y) := by
  apply Ret.eq
  have m40 := h.m40
  have lto := h.lto
  unfold M.spec_l02Hom
  refine Ret.acc (c.From.length : Int) (fun i a => a = fil i fun s => el c.From s == x && el c.To s == y) (by omega) (by omega) rfl ?_ ?_
  · rintro i a next hi0 hi1 rfl hn1
    have hle := fil_length_le i fun s => el c.From s == x && el c.To s == y
    dsimp only
    simp only [decide_eq_true_eq, beq_iff_eq]
    rw [if_pos hi1]
    refine Ret.idx hi0 hi1 (Ret.ite (fun h1 => Ret.idx hi0 (by omega) (Ret.ite (fun h2 => Ret.chk (by unfold lim; simp only [List.length_cons, List.length_nil]; omega) (hn1 _ ?_)) (fun h2 => hn1 _ ?_))) (fun h1 => hn1 _ ?_))
    · rw [fil_succ _ hi0]; simp [h1, h2]
    · rw [fil_succ _ hi0]; simp [h2]
    · rw [fil_succ _ hi0]; simp [h1]
  · rintro a next rfl
    dsimp only
    simp only [decide_eq_true_eq]
    rw [if_neg (by omega)]
    exact Ret.some rfl

theorem homL_len {c : XCategory} (h : Shp c) (x y : Int) : ((homL c x y).length : Int) ≤ 40 := by
  have := fil_length_le (c.From.length : Int) fun s => el c.From s == x && el c.To s == y
  have m40 := h.m40
  unfold homL
  omega
theorem homL_mem {c : XCategory} {x y s : Int} : s ∈ homL c x y ↔ 0 ≤ s ∧ s < (c.From.length : Int) ∧ el c.From s = x ∧ el c.To s = y := by
  unfold homL
  rw [fil_mem, Bool.and_eq_true, beq_iff_eq, beq_iff_eq]

noncomputable def indexL (l : List Int) (v : Int) : Int := (M.spec_l01Index l v).getD (-1)
theorem l01Index_eq {l : List Int} (h : Small l) (v : Int) : M.spec_l01Index l v = some (indexL l v) := by
  have h1 : Ret (M.spec_l01Index l v) fun _ => True := by
    unfold M.spec_l01Index
    simp only [decide_eq_true_eq]
    refine Ret.all (l.length : Int) (fun _ => True) (by omega) (by omega) ?_ ?_
    · intro i next hi0 hi1 hp hn1
      rw [if_pos hi1]
      exact Ret.idx hi0 hi1 (Ret.ite (fun _ => Ret.some trivial) (fun _ => hn1 trivial))
    · intro next hp
      rw [if_neg (by omega)]
      exact Ret.some trivial
  obtain ⟨r, e, _⟩ := h1
  unfold indexL
  rw [e]; rfl
/-! ### the profunctor of two functors with one target -/
structure Two (f g : XFunctor) : Prop where
  sf : Shp f.Source
  sg : Shp g.Source
  st : Shp f.Target
  lo : (f.Objects.length : Int) = f.Source.Objects
  la : (f.Arrows.length : Int) = (f.Source.From.length : Int)
  lo' : (g.Objects.length : Int) = g.Source.Objects
  la' : (g.Arrows.length : Int) = (g.Source.From.length : Int)
  ia : In (f.Target.From.length : Int) f.Arrows
  ia' : In (f.Target.From.length : Int) g.Arrows

end Go.Gx

/- Plain laws: inverses, isomorphisms among arrows. -/
namespace Go.Gx
open Classical
set_option maxHeartbeats 1000000

theorem el_get {l : List Int} {k : Nat} (h : k < l.length) : el l (k : Int) = l[k] := by
  unfold el; simp [h]
end Go.Gx

/- Plain laws: objects and arrows of a category, in range. -/
namespace Go.Gx
open Classical
set_option maxHeartbeats 1000000

theorem l02Arrow_eq (c : XCategory) (x : Int) : M.spec_l02Arrow c x = some (decide (0 ≤ x ∧ x < (c.From.length : Int))) := by
  unfold M.spec_l02Arrow
  by_cases h : 0 ≤ x <;> simp [h]
theorem inR_eq {y n : Int} (h0 : 0 ≤ n) (h8 : n ≤ 1048576) : M.impl_inRange y 0 (IntKind.i64.wrap (n - 1)) = some (decide (0 ≤ y ∧ y < n)) := by
  rw [inRange_eq, wrap_in (by omega) (by omega)]
  congr 1
  rw [Bool.eq_iff_iff]
  simp only [Bool.and_eq_true, decide_eq_true_eq]
  constructor <;> intro h <;> exact ⟨h.1, by omega⟩
end Go.Gx

/- Plain laws: universal arrows. -/
namespace Go.Gx
open Classical
set_option maxHeartbeats 1000000

/-! ### lists without doubles -/
theorem fil_nodup (n : Int) (p : Int → Bool) : (fil n p).Nodup := by
  unfold fil
  refine List.Pairwise.filter _ ?_
  rw [List.pairwise_map]
  exact (show List.Pairwise (fun a b : Nat => a ≠ b) (List.range n.toNat) from List.nodup_range).imp fun h e => h (by omega)
theorem homL_nodup (c : XCategory) (x y : Int) : (homL c x y).Nodup := fil_nodup _ _

/-! ### a map's keys -/
/-- What a map holds after the first i values. -/
structure Keys (l : List Int) (m : List (Int × Bool)) : Prop where
  mem : ∀ k, k ∈ m.map (·.1) ↔ k ∈ l
  le : m.length ≤ l.length
  eq : m.length = l.length ↔ l.Nodup
/-! ### universal arrows -/
abbrev lftL (f : XFunctor) (x z e g : Int) : List Int := (homL f.Source x z).filter fun u => cmp f.Target (el f.Arrows u) e == g
def Univ (f : XFunctor) (y z e : Int) : Prop := ∀ x, 0 ≤ x → x < f.Source.Objects → ∀ g ∈ homL f.Target (el f.Objects x) y, ((lftL f x z e g).length : Int) = 1

/-- What is found: the first universal arrow to y. -/
def Found (f : XFunctor) (y : Int) (r : Int × Int × Bool) : Prop :=
  (r.2.2 = true ∧ 0 ≤ r.1 ∧ r.1 < f.Source.Objects ∧ (∀ x, 0 ≤ x → x < r.1 → ∀ g ∈ homL f.Target (el f.Objects x) y, ¬ Univ f y x g) ∧
    ∃ j, 0 ≤ j ∧ j < ((homL f.Target (el f.Objects r.1) y).length : Int) ∧ r.2.1 = el (homL f.Target (el f.Objects r.1) y) j ∧ Univ f y r.1 r.2.1 ∧ ∀ k, 0 ≤ k → k < j → ¬ Univ f y r.1 (el (homL f.Target (el f.Objects r.1) y) k)) ∨
  (r = (0, 0, false) ∧ ∀ x, 0 ≤ x → x < f.Source.Objects → ∀ g ∈ homL f.Target (el f.Objects x) y, ¬ Univ f y x g)

theorem Found.one {f : XFunctor} {y : Int} {r s : Int × Int × Bool} (hr : Found f y r) (hs : Found f y s) : r = s := by
  obtain ⟨r1, r2, r3⟩ := r
  obtain ⟨s1, s2, s3⟩ := s
  rcases hr with ⟨a1, a2, a3, a4, j, j0, j1, j2, j3, j4⟩ | ⟨a1, a2⟩ <;> rcases hs with ⟨b1, b2, b3, b4, k, k0, k1, k2, k3, k4⟩ | ⟨b1, b2⟩
  · dsimp only at *
    have e1 : r1 = s1 := by
      rcases Int.lt_trichotomy r1 s1 with h | h | h
      · exact absurd j3 (b4 r1 a2 h r2 (j2 ▸ el_mem j0 j1))
      · exact h
      · exact absurd k3 (a4 s1 b2 h s2 (k2 ▸ el_mem k0 k1))
    subst e1
    have e2 : j = k := by
      rcases Int.lt_trichotomy j k with h | h | h
      · exact absurd j3 (j2 ▸ k4 j j0 h)
      · exact h
      · exact absurd k3 (k2 ▸ j4 k k0 h)
    subst e2
    rw [j2, k2, a1, b1]
  · dsimp only at *
    exact absurd j3 (b2 r1 a2 a3 r2 (j2 ▸ el_mem j0 j1))
  · dsimp only at *
    exact absurd k3 (a2 s1 b2 b3 s2 (k2 ▸ el_mem k0 k1))
  · rw [a1, b1]

end Go.Gx
