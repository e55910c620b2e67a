/- Laid together: part 0. -/
import Derived.Test.YtjmjhhhglbeacaaGxE1
import Derived.Test.YtjmjhhhglbeacaaGxEM0
/- Plain laws of categories and functors: what the models of spec and impl answer. -/
namespace Go.Gx

instance : Inhabited XCategory := ⟨⟨0, [], [], [], []⟩⟩

abbrev Small {α : Type} (l : List α) : Prop := (l.length : Int) ≤ 1048576
abbrev Fits {α : Type} (l : List α) : Prop := (l.length : Int) ≤ 9223372036854775807

structure FitsC (c : XCategory) : Prop where
  f1 : Fits c.From
  f2 : Fits c.To
  f3 : Fits c.Identity
  f4 : Fits c.Composites
  f5 : ∀ r ∈ c.Composites, Fits r

structure SmallC (c : XCategory) : Prop where
  s1 : Small c.From
  s2 : Small c.To
  s3 : Small c.Identity
  s4 : Small c.Composites
  s5 : ∀ r ∈ c.Composites, Small r

structure FitsF (f : XFunctor) : Prop where
  f1 : FitsC f.Source
  f2 : FitsC f.Target
  f3 : Fits f.Objects
  f4 : Fits f.Arrows

structure SmallF (f : XFunctor) : Prop where
  s1 : SmallC f.Source
  s2 : SmallC f.Target
  s3 : Small f.Objects
  s4 : Small f.Arrows

/-! ### sizes -/

theorem szInt64S_r {l : List Int} {n : Int} (h0 : 0 ≤ n) (h1 : n ≤ 1048576) (hl : Fits l) :
    Ret (M.laws_szInt64S l n) fun r => (r < 0 ∧ r = -1) ∨ (0 ≤ r ∧ r ≤ n ∧ Small l) := by
  unfold M.laws_szInt64S
  rw [wrap_in (by omega) (by omega)]
  simp only [decide_eq_true_eq]
  (repeat' (first | with_reducible refine Ret.pos ‹_› ?_ | with_reducible refine Ret.neg ‹_› ?_ | with_reducible refine Ret.neg (Int.lt_irrefl _) ?_ | with_reducible refine Ret.ite (fun _ => ?_) (fun _ => ?_) | with_reducible refine Ret.idx ?_ ?_ ?_ | with_reducible refine Ret.chk ?_ ?_ | with_reducible refine hn3 ?_ | with_reducible refine hn2 ?_ | with_reducible refine hn1 ?_ | with_reducible refine hn3 _ ?_ | with_reducible refine hn2 _ ?_ | with_reducible refine hn1 _ ?_ | with_reducible refine Ret.some ?_))
  all_goals (try ((fail_if_success (with_reducible refine Ret.probe ?_)); grind))

theorem szInt64SS_r {l : List (List Int)} {n : Int} (h0 : 0 ≤ n) (h1 : n ≤ 1048576) (hl : Fits l) (hr : ∀ r ∈ l, Fits r) :
    Ret (M.laws_szInt64SS l n) fun r => (r < 0 ∧ r = -1) ∨ (0 ≤ r ∧ r ≤ n ∧ Small l ∧ ∀ x ∈ l, Small x) := by
  unfold M.laws_szInt64SS
  rw [wrap_in (by omega) (by omega)]
  simp only [decide_eq_true_eq]
  (repeat' (first | with_reducible refine Ret.pos ‹_› ?_ | with_reducible refine Ret.neg ‹_› ?_ | with_reducible refine Ret.neg (Int.lt_irrefl _) ?_ | with_reducible refine Ret.ite (fun _ => ?_) (fun _ => ?_) | with_reducible refine Ret.idx ?_ ?_ ?_ | with_reducible refine Ret.chk ?_ ?_ | with_reducible refine hn3 ?_ | with_reducible refine hn2 ?_ | with_reducible refine hn1 ?_ | with_reducible refine hn3 _ ?_ | with_reducible refine hn2 _ ?_ | with_reducible refine hn1 _ ?_ | with_reducible refine Ret.some ?_))
  all_goals (try ((fail_if_success (with_reducible refine Ret.probe ?_)); grind))
  refine Ret.acc (l.length : Int) (fun i a => 0 ≤ a ∧ a ≤ n ∧ ∀ j, 0 ≤ j → j < i → Small (el l j)) (by omega) (by omega) ⟨by omega, by omega, fun j h0 h1 => by omega⟩ ?_ ?_
  · intro i a next hi0 hi1 hp hn1
    dsimp only
    have := hr _ (el_mem hi0 hi1)
    (repeat' (first | with_reducible refine Ret.pos ‹_› ?_ | with_reducible refine Ret.neg ‹_› ?_ | with_reducible refine Ret.neg (Int.lt_irrefl _) ?_ | with_reducible refine Ret.ite (fun _ => ?_) (fun _ => ?_) | with_reducible refine Ret.idx ?_ ?_ ?_ | with_reducible refine Ret.chk ?_ ?_ | with_reducible refine hn3 ?_ | with_reducible refine hn2 ?_ | with_reducible refine hn1 ?_ | with_reducible refine hn3 _ ?_ | with_reducible refine hn2 _ ?_ | with_reducible refine hn1 _ ?_ | with_reducible refine Ret.bind (szInt64S_r ?_ ?_ ?_) fun v hv => ?_ | with_reducible refine Ret.some ?_))
    all_goals (try ((fail_if_success (with_reducible refine Ret.probe ?_)); grind))
  · intro a next hp
    dsimp only
    (repeat' (first | with_reducible refine Ret.pos ‹_› ?_ | with_reducible refine Ret.neg ‹_› ?_ | with_reducible refine Ret.neg (Int.lt_irrefl _) ?_ | with_reducible refine Ret.ite (fun _ => ?_) (fun _ => ?_) | with_reducible refine Ret.idx ?_ ?_ ?_ | with_reducible refine Ret.chk ?_ ?_ | with_reducible refine hn3 ?_ | with_reducible refine hn2 ?_ | with_reducible refine hn1 ?_ | with_reducible refine hn3 _ ?_ | with_reducible refine hn2 _ ?_ | with_reducible refine hn1 _ ?_ | with_reducible refine Ret.some ?_))
    refine Or.inr ⟨hp.1, hp.2.1, by omega, fun x hx => ?_⟩
    obtain ⟨i, h0, h1, rfl⟩ := mem_el hx
    exact hp.2.2 i h0 h1

theorem szCategory_r {c : XCategory} {n : Int} (h0 : 0 ≤ n) (h1 : n ≤ 1048576) (h : FitsC c) :
    Ret (M.laws_szCategory c n) fun r => (r < 0 ∧ r = -1) ∨ (0 ≤ r ∧ r ≤ n ∧ SmallC c) := by
  obtain ⟨g1, g2, g3, g4, g5⟩ := h
  unfold M.laws_szCategory
  simp only [decide_eq_true_eq]
  (repeat' (first | with_reducible refine Ret.pos ‹_› ?_ | with_reducible refine Ret.neg ‹_› ?_ | with_reducible refine Ret.neg (Int.lt_irrefl _) ?_ | with_reducible refine Ret.ite (fun _ => ?_) (fun _ => ?_) | with_reducible refine Ret.idx ?_ ?_ ?_ | with_reducible refine Ret.chk ?_ ?_ | with_reducible refine hn3 ?_ | with_reducible refine hn2 ?_ | with_reducible refine hn1 ?_ | with_reducible refine hn3 _ ?_ | with_reducible refine hn2 _ ?_ | with_reducible refine hn1 _ ?_ | with_reducible refine Ret.bind (szInt64S_r ?_ ?_ ?_) fun v hv => ?_ | with_reducible refine Ret.bind (szInt64SS_r ?_ ?_ ?_ ?_) fun v hv => ?_ | with_reducible refine Ret.some ?_))
  all_goals first | assumption | omega | (refine Or.inl ⟨by omega, rfl⟩) | (refine Or.inr ⟨by omega, by omega, ⟨by omega, by omega, by omega, by omega, ?_⟩⟩; grind)

/-! ### copies -/

theorem clone_eq {l : List Int} (h : Small l) : M.impl_clone l = some l := by
  unfold M.impl_clone chk
  rw [if_pos (by unfold lim; simp only [List.length_nil]; omega)]; simp

theorem own_eq {l : List Int} (h : Small l) : M.spec_l01Own l = some l := by
  unfold M.spec_l01Own chk
  rw [if_pos (by unfold lim; simp only [List.length_nil]; omega)]; simp

theorem own2_eq {l : List (List Int)} (h : Small l) (hr : ∀ r ∈ l, Small r) : M.spec_l01Own2 l = some l := by
  apply Ret.eq
  unfold M.spec_l01Own2
  refine Ret.acc (l.length : Int) (fun i a => a = l.take i.toNat) (by omega) (by omega) (by simp) ?_ ?_
  · rintro i a next hi0 hi1 rfl hn1
    dsimp only
    simp only [decide_eq_true_eq]
    have := hr _ (el_mem hi0 hi1)
    (repeat' (first | with_reducible refine Ret.pos ‹_› ?_ | with_reducible refine Ret.neg ‹_› ?_ | with_reducible refine Ret.neg (Int.lt_irrefl _) ?_ | with_reducible refine Ret.ite (fun _ => ?_) (fun _ => ?_) | with_reducible refine Ret.idx ?_ ?_ ?_ | with_reducible refine Ret.chk ?_ ?_ | with_reducible refine hn3 ?_ | with_reducible refine hn2 ?_ | with_reducible refine hn1 ?_ | with_reducible refine hn3 _ ?_ | with_reducible refine hn2 _ ?_ | with_reducible refine hn1 _ ?_ | with_reducible refine Ret.call (own_eq ?_) ?_ | with_reducible refine Ret.some ?_))
    all_goals (try ((fail_if_success (with_reducible refine Ret.probe ?_)); grind [lim, take_succ_el]))
  · rintro a next rfl
    dsimp only
    simp only [decide_eq_true_eq]
    (repeat' (first | with_reducible refine Ret.pos ‹_› ?_ | with_reducible refine Ret.neg ‹_› ?_ | with_reducible refine Ret.neg (Int.lt_irrefl _) ?_ | with_reducible refine Ret.ite (fun _ => ?_) (fun _ => ?_) | with_reducible refine Ret.idx ?_ ?_ ?_ | with_reducible refine Ret.chk ?_ ?_ | with_reducible refine hn3 ?_ | with_reducible refine hn2 ?_ | with_reducible refine hn1 ?_ | with_reducible refine hn3 _ ?_ | with_reducible refine hn2 _ ?_ | with_reducible refine hn1 _ ?_ | with_reducible refine Ret.some ?_))
    simp

theorem clones_eq {l : List (List Int)} (h : Small l) (hr : ∀ r ∈ l, Small r) : M.impl_clones l = some l := by
  apply Ret.eq
  unfold M.impl_clones
  refine Ret.chk ⟨by omega, by unfold lim; omega⟩ ?_
  refine Ret.acc (l.length : Int) (fun i a => a = l.take i.toNat) (by omega) (by omega) (by simp) ?_ ?_
  · rintro i a next hi0 hi1 rfl hn1
    dsimp only
    simp only [decide_eq_true_eq]
    have := hr _ (el_mem hi0 hi1)
    (repeat' (first | with_reducible refine Ret.pos ‹_› ?_ | with_reducible refine Ret.neg ‹_› ?_ | with_reducible refine Ret.neg (Int.lt_irrefl _) ?_ | with_reducible refine Ret.ite (fun _ => ?_) (fun _ => ?_) | with_reducible refine Ret.idx ?_ ?_ ?_ | with_reducible refine Ret.chk ?_ ?_ | with_reducible refine hn3 ?_ | with_reducible refine hn2 ?_ | with_reducible refine hn1 ?_ | with_reducible refine hn3 _ ?_ | with_reducible refine hn2 _ ?_ | with_reducible refine hn1 _ ?_ | with_reducible refine Ret.call (clone_eq ?_) ?_ | with_reducible refine Ret.some ?_))
    all_goals (try ((fail_if_success (with_reducible refine Ret.probe ?_)); grind [lim, take_succ_el]))
  · rintro a next rfl
    dsimp only
    simp only [decide_eq_true_eq]
    (repeat' (first | with_reducible refine Ret.pos ‹_› ?_ | with_reducible refine Ret.neg ‹_› ?_ | with_reducible refine Ret.neg (Int.lt_irrefl _) ?_ | with_reducible refine Ret.ite (fun _ => ?_) (fun _ => ?_) | with_reducible refine Ret.idx ?_ ?_ ?_ | with_reducible refine Ret.chk ?_ ?_ | with_reducible refine hn3 ?_ | with_reducible refine hn2 ?_ | with_reducible refine hn1 ?_ | with_reducible refine hn3 _ ?_ | with_reducible refine hn2 _ ?_ | with_reducible refine hn1 _ ?_ | with_reducible refine Ret.some ?_))
    simp

/-- What a copying loop has written after i rounds. -/
theorem set_copy {α : Type} [Inhabited α] {l : List α} {z : α} {i : Int} (h0 : 0 ≤ i) (_ : i < (l.length : Int)) :
    (tab (l.length : Int) fun j => if j < i then el l j else z).set i.toNat (el l i) = tab (l.length : Int) fun j => if j < i + 1 then el l j else z := by
  rw [set_tab h0]
  apply tab_congr
  intro j hj0 hj1
  grind

theorem toInt64S_eq {l : List Int} (h : Small l) : M.laws_toInt64S l = some l := by
  apply Ret.eq
  unfold M.laws_toInt64S
  refine Ret.chk ⟨by omega, by unfold lim; omega⟩ ?_
  refine Ret.acc (l.length : Int) (fun i a => a = tab (l.length : Int) fun j => if j < i then el l j else 0) (by omega) (by omega) ?_ ?_ ?_
  · rw [rep_tab]; apply tab_congr; intro j h0 h1; rw [if_neg (by omega)]
  · rintro i a next hi0 hi1 rfl hn1
    dsimp only
    simp only [decide_eq_true_eq]
    have := set_copy (z := (0 : Int)) hi0 hi1
    (repeat' (first | with_reducible refine Ret.pos ‹_› ?_ | with_reducible refine Ret.neg ‹_› ?_ | with_reducible refine Ret.neg (Int.lt_irrefl _) ?_ | with_reducible refine Ret.ite (fun _ => ?_) (fun _ => ?_) | with_reducible refine Ret.idx ?_ ?_ ?_ | with_reducible refine Ret.chk ?_ ?_ | with_reducible refine hn3 ?_ | with_reducible refine hn2 ?_ | with_reducible refine hn1 ?_ | with_reducible refine hn3 _ ?_ | with_reducible refine hn2 _ ?_ | with_reducible refine hn1 _ ?_ | with_reducible refine Ret.some ?_))
    all_goals (try ((fail_if_success (with_reducible refine Ret.probe ?_)); grind [tab_length]))
  · rintro a next rfl
    dsimp only
    simp only [decide_eq_true_eq]
    (repeat' (first | with_reducible refine Ret.pos ‹_› ?_ | with_reducible refine Ret.neg ‹_› ?_ | with_reducible refine Ret.neg (Int.lt_irrefl _) ?_ | with_reducible refine Ret.ite (fun _ => ?_) (fun _ => ?_) | with_reducible refine Ret.idx ?_ ?_ ?_ | with_reducible refine Ret.chk ?_ ?_ | with_reducible refine hn3 ?_ | with_reducible refine hn2 ?_ | with_reducible refine hn1 ?_ | with_reducible refine hn3 _ ?_ | with_reducible refine hn2 _ ?_ | with_reducible refine hn1 _ ?_ | with_reducible refine Ret.some ?_))
    conv => rhs; rw [← tab_el l]
    apply tab_congr; intro j h0 h1; rw [if_pos h1]

theorem toInt64SS_eq {l : List (List Int)} (h : Small l) (hr : ∀ r ∈ l, Small r) : M.laws_toInt64SS l = some l := by
  apply Ret.eq
  unfold M.laws_toInt64SS
  refine Ret.chk ⟨by omega, by unfold lim; omega⟩ ?_
  refine Ret.acc (l.length : Int) (fun i a => a = tab (l.length : Int) fun j => if j < i then el l j else []) (by omega) (by omega) ?_ ?_ ?_
  · rw [rep_tab]; apply tab_congr; intro j h0 h1; rw [if_neg (by omega)]
  · rintro i a next hi0 hi1 rfl hn1
    dsimp only
    simp only [decide_eq_true_eq]
    have := set_copy (z := ([] : List Int)) hi0 hi1
    have := hr _ (el_mem hi0 hi1)
    (repeat' (first | with_reducible refine Ret.pos ‹_› ?_ | with_reducible refine Ret.neg ‹_› ?_ | with_reducible refine Ret.neg (Int.lt_irrefl _) ?_ | with_reducible refine Ret.ite (fun _ => ?_) (fun _ => ?_) | with_reducible refine Ret.idx ?_ ?_ ?_ | with_reducible refine Ret.chk ?_ ?_ | with_reducible refine hn3 ?_ | with_reducible refine hn2 ?_ | with_reducible refine hn1 ?_ | with_reducible refine hn3 _ ?_ | with_reducible refine hn2 _ ?_ | with_reducible refine hn1 _ ?_ | with_reducible refine Ret.call (toInt64S_eq ?_) ?_ | with_reducible refine Ret.some ?_))
    all_goals (try ((fail_if_success (with_reducible refine Ret.probe ?_)); grind [tab_length]))
  · rintro a next rfl
    dsimp only
    simp only [decide_eq_true_eq]
    (repeat' (first | with_reducible refine Ret.pos ‹_› ?_ | with_reducible refine Ret.neg ‹_› ?_ | with_reducible refine Ret.neg (Int.lt_irrefl _) ?_ | with_reducible refine Ret.ite (fun _ => ?_) (fun _ => ?_) | with_reducible refine Ret.idx ?_ ?_ ?_ | with_reducible refine Ret.chk ?_ ?_ | with_reducible refine hn3 ?_ | with_reducible refine hn2 ?_ | with_reducible refine hn1 ?_ | with_reducible refine hn3 _ ?_ | with_reducible refine hn2 _ ?_ | with_reducible refine hn1 _ ?_ | with_reducible refine Ret.some ?_))
    conv => rhs; rw [← tab_el l]
    apply tab_congr; intro j h0 h1; rw [if_pos h1]

theorem toCategory_eq {c : XCategory} (h : SmallC c) : M.laws_toCategory c = some c := by
  unfold M.laws_toCategory
  rw [toInt64S_eq h.s1, toInt64S_eq h.s2, toInt64S_eq h.s3, toInt64SS_eq h.s4 h.s5]; rfl

theorem l02Own_eq {c : XCategory} (h : SmallC c) : M.spec_l02Own c = some c := by
  unfold M.spec_l02Own
  rw [own_eq h.s1, own_eq h.s2, own_eq h.s3, own2_eq h.s4 h.s5]; rfl

theorem copy_eq {c : XCategory} (h : SmallC c) : M.impl_Category_copy c = some c := by
  unfold M.impl_Category_copy
  rw [clone_eq h.s1, clone_eq h.s2, clone_eq h.s3, clones_eq h.s4 h.s5]; rfl

/-! ### equality -/

theorem eqInt64S_refl {l : List Int} (h : Small l) : M.laws_eqInt64S l l = some true := by
  apply Ret.eq
  unfold M.laws_eqInt64S
  simp only [bne_self_eq_false, Bool.false_eq_true, if_false, decide_eq_true_eq]
  refine Ret.all (l.length : Int) (fun _ => True) (by omega) (by omega) ?_ ?_
  · intro i next hi0 hi1 hp hn1
    (repeat' (first | with_reducible refine Ret.pos ‹_› ?_ | with_reducible refine Ret.neg ‹_› ?_ | with_reducible refine Ret.neg (Int.lt_irrefl _) ?_ | with_reducible refine Ret.ite (fun _ => ?_) (fun _ => ?_) | with_reducible refine Ret.idx ?_ ?_ ?_ | with_reducible refine Ret.chk ?_ ?_ | with_reducible refine hn3 ?_ | with_reducible refine hn2 ?_ | with_reducible refine hn1 ?_ | with_reducible refine hn3 _ ?_ | with_reducible refine hn2 _ ?_ | with_reducible refine hn1 _ ?_ | with_reducible refine Ret.some ?_))
    all_goals (try ((fail_if_success (with_reducible refine Ret.probe ?_)); grind))
  · intro next hp
    (repeat' (first | with_reducible refine Ret.pos ‹_› ?_ | with_reducible refine Ret.neg ‹_› ?_ | with_reducible refine Ret.neg (Int.lt_irrefl _) ?_ | with_reducible refine Ret.ite (fun _ => ?_) (fun _ => ?_) | with_reducible refine Ret.idx ?_ ?_ ?_ | with_reducible refine Ret.chk ?_ ?_ | with_reducible refine hn3 ?_ | with_reducible refine hn2 ?_ | with_reducible refine hn1 ?_ | with_reducible refine hn3 _ ?_ | with_reducible refine hn2 _ ?_ | with_reducible refine hn1 _ ?_ | with_reducible refine Ret.some ?_))
    all_goals (try ((fail_if_success (with_reducible refine Ret.probe ?_)); grind))

end Go.Gx

/- Plain laws: which tables are categories, and which are functors, by spec and by impl alike. -/
namespace Go.Gx
open Classical
set_option maxHeartbeats 4000000

theorem eqInt64SS_refl {l : List (List Int)} (h : Small l) (hr : ∀ r ∈ l, Small r) : M.laws_eqInt64SS l l = some true := by
  apply Ret.eq
  unfold M.laws_eqInt64SS
  simp only [bne_self_eq_false, Bool.false_eq_true, if_false, decide_eq_true_eq]
  refine Ret.all (l.length : Int) (fun _ => True) (by omega) (by omega) ?_ ?_
  · intro i next hi0 hi1 hp hn1
    have := hr _ (el_mem hi0 hi1)
    (repeat' (first | with_reducible refine Ret.pos ‹_› ?_ | with_reducible refine Ret.neg ‹_› ?_ | with_reducible refine Ret.neg (Int.lt_irrefl _) ?_ | with_reducible refine Ret.ite (fun _ => ?_) (fun _ => ?_) | with_reducible refine Ret.idx ?_ ?_ ?_ | with_reducible refine Ret.chk ?_ ?_ | with_reducible refine hn3 ?_ | with_reducible refine hn2 ?_ | with_reducible refine hn1 ?_ | with_reducible refine hn3 _ ?_ | with_reducible refine hn2 _ ?_ | with_reducible refine hn1 _ ?_ | with_reducible refine Ret.call (eqInt64S_refl ?_) ?_ | with_reducible refine Ret.some ?_))
    all_goals (try ((fail_if_success (with_reducible refine Ret.probe ?_)); grind))
  · intro next hp
    (repeat' (first | with_reducible refine Ret.pos ‹_› ?_ | with_reducible refine Ret.neg ‹_› ?_ | with_reducible refine Ret.neg (Int.lt_irrefl _) ?_ | with_reducible refine Ret.ite (fun _ => ?_) (fun _ => ?_) | with_reducible refine Ret.idx ?_ ?_ ?_ | with_reducible refine Ret.chk ?_ ?_ | with_reducible refine hn3 ?_ | with_reducible refine hn2 ?_ | with_reducible refine hn1 ?_ | with_reducible refine hn3 _ ?_ | with_reducible refine hn2 _ ?_ | with_reducible refine hn1 _ ?_ | with_reducible refine Ret.some ?_))
    all_goals (try ((fail_if_success (with_reducible refine Ret.probe ?_)); grind))

theorem eqCategory_refl {c : XCategory} (h : SmallC c) : M.laws_eqCategory c c = some true := by
  unfold M.laws_eqCategory
  rw [eqInt64S_refl h.s1, eqInt64S_refl h.s2, eqInt64S_refl h.s3, eqInt64SS_refl h.s4 h.s5]; simp

/-! ### ranges -/

abbrev In (n : Int) (l : List Int) : Prop := ∀ i, 0 ≤ i → i < (l.length : Int) → 0 ≤ el l i ∧ el l i < n

theorem l01In_eq (a b c : Int) : M.spec_l01In a b c = some (decide (b ≤ a) && decide (a ≤ c)) := by
  unfold M.spec_l01In
  by_cases h : b ≤ a <;> simp [h]
theorem inRange_eq (a b c : Int) : M.impl_inRange a b c = some (decide (b ≤ a) && decide (a ≤ c)) := by
  unfold M.impl_inRange
  by_cases h : b ≤ a <;> simp [h]

theorem l01Map_eq {n : Int} {l : List Int} (h : Small l) : M.spec_l01Map n l = some (decide (In n l)) := by
  apply Ret.ask
  unfold M.spec_l01Map
  simp only [decide_eq_true_eq]
  refine Ret.all (l.length : Int) (fun i => 0 ≤ el l i ∧ el l i < n) (by omega) (by omega) ?_ ?_
  · intro i next hi0 hi1 hp hn1
    (repeat' (first | with_reducible refine Ret.pos ‹_› ?_ | with_reducible refine Ret.neg ‹_› ?_ | with_reducible refine Ret.neg (Int.lt_irrefl _) ?_ | with_reducible refine Ret.ite (fun _ => ?_) (fun _ => ?_) | with_reducible refine Ret.idx ?_ ?_ ?_ | with_reducible refine Ret.chk ?_ ?_ | with_reducible refine hn3 ?_ | with_reducible refine hn2 ?_ | with_reducible refine hn1 ?_ | with_reducible refine hn3 _ ?_ | with_reducible refine hn2 _ ?_ | with_reducible refine hn1 _ ?_ | with_reducible refine Ret.some ?_))
    all_goals (try ((fail_if_success (with_reducible refine Ret.probe ?_)); grind))
  · intro next hp
    (repeat' (first | with_reducible refine Ret.pos ‹_› ?_ | with_reducible refine Ret.neg ‹_› ?_ | with_reducible refine Ret.neg (Int.lt_irrefl _) ?_ | with_reducible refine Ret.ite (fun _ => ?_) (fun _ => ?_) | with_reducible refine Ret.idx ?_ ?_ ?_ | with_reducible refine Ret.chk ?_ ?_ | with_reducible refine hn3 ?_ | with_reducible refine hn2 ?_ | with_reducible refine hn1 ?_ | with_reducible refine hn3 _ ?_ | with_reducible refine hn2 _ ?_ | with_reducible refine hn1 _ ?_ | with_reducible refine Ret.some ?_))
    all_goals (try ((fail_if_success (with_reducible refine Ret.probe ?_)); grind))

theorem within_eq {n : Int} {l : List Int} (h : Small l) (h0 : -4611686018427387904 ≤ n) (h1 : n ≤ 4611686018427387904) : M.impl_within l n = some (decide (In n l)) := by
  apply Ret.ask
  unfold M.impl_within
  rw [wrap_in (by omega) (by omega)]
  simp only [decide_eq_true_eq]
  refine Ret.all (l.length : Int) (fun i => 0 ≤ el l i ∧ el l i < n) (by omega) (by omega) ?_ ?_
  · intro i next hi0 hi1 hp hn1
    (repeat' (first | with_reducible refine Ret.pos ‹_› ?_ | with_reducible refine Ret.neg ‹_› ?_ | with_reducible refine Ret.neg (Int.lt_irrefl _) ?_ | with_reducible refine Ret.ite (fun _ => ?_) (fun _ => ?_) | with_reducible refine Ret.idx ?_ ?_ ?_ | with_reducible refine Ret.chk ?_ ?_ | with_reducible refine hn3 ?_ | with_reducible refine hn2 ?_ | with_reducible refine hn1 ?_ | with_reducible refine hn3 _ ?_ | with_reducible refine hn2 _ ?_ | with_reducible refine hn1 _ ?_ | with_reducible refine Ret.call (inRange_eq _ _ _) ?_ | with_reducible refine Ret.some ?_))
    all_goals (try ((fail_if_success (with_reducible refine Ret.probe ?_)); grind))
  · intro next hp
    (repeat' (first | with_reducible refine Ret.pos ‹_› ?_ | with_reducible refine Ret.neg ‹_› ?_ | with_reducible refine Ret.neg (Int.lt_irrefl _) ?_ | with_reducible refine Ret.ite (fun _ => ?_) (fun _ => ?_) | with_reducible refine Ret.idx ?_ ?_ ?_ | with_reducible refine Ret.chk ?_ ?_ | with_reducible refine hn3 ?_ | with_reducible refine hn2 ?_ | with_reducible refine hn1 ?_ | with_reducible refine hn3 _ ?_ | with_reducible refine hn2 _ ?_ | with_reducible refine hn1 _ ?_ | with_reducible refine Ret.call (inRange_eq _ _ _) ?_ | with_reducible refine Ret.some ?_))
    all_goals (try ((fail_if_success (with_reducible refine Ret.probe ?_)); grind))

theorem l02Ends_eq {n m : Int} {l : List Int} (h : Small l) : M.spec_l02Ends l m n = some (decide ((l.length : Int) = m ∧ In n l)) := by
  apply Ret.ask
  unfold M.spec_l02Ends
  simp only [beq_iff_eq]
  (repeat' (first | with_reducible refine Ret.pos ‹_› ?_ | with_reducible refine Ret.neg ‹_› ?_ | with_reducible refine Ret.neg (Int.lt_irrefl _) ?_ | with_reducible refine Ret.ite (fun _ => ?_) (fun _ => ?_) | with_reducible refine Ret.idx ?_ ?_ ?_ | with_reducible refine Ret.chk ?_ ?_ | with_reducible refine hn3 ?_ | with_reducible refine hn2 ?_ | with_reducible refine hn1 ?_ | with_reducible refine hn3 _ ?_ | with_reducible refine hn2 _ ?_ | with_reducible refine hn1 _ ?_ | with_reducible refine Ret.call (l01Map_eq h) ?_ | with_reducible refine Ret.some ?_))
  all_goals (try ((fail_if_success (with_reducible refine Ret.probe ?_)); grind))

/-! ### categories -/

/-- The composite of i and j. -/
abbrev cmp (c : XCategory) (i j : Int) : Int := el (el c.Composites i) j

def CompOk (c : XCategory) (i j : Int) : Prop :=
  (el c.To i ≠ el c.From j → cmp c i j = -1) ∧
  (el c.To i = el c.From j → 0 ≤ cmp c i j ∧ cmp c i j < (c.From.length : Int) ∧ el c.From (cmp c i j) = el c.From i ∧ el c.To (cmp c i j) = el c.To j)

def Shape (c : XCategory) : Prop :=
  0 ≤ c.Objects ∧ c.Objects ≤ 8 ∧ (c.From.length : Int) ≤ 40 ∧ (c.To.length : Int) = (c.From.length : Int) ∧ (c.Identity.length : Int) = c.Objects ∧
  (c.Composites.length : Int) = (c.From.length : Int) ∧ In c.Objects c.From ∧ In c.Objects c.To ∧ In (c.From.length : Int) c.Identity ∧
  (∀ i, 0 ≤ i → i < c.Objects → el c.From (el c.Identity i) = i ∧ el c.To (el c.Identity i) = i) ∧
  (∀ i, 0 ≤ i → i < (c.From.length : Int) → ((el c.Composites i).length : Int) = (c.From.length : Int) ∧ ∀ j, 0 ≤ j → j < (c.From.length : Int) → CompOk c i j)

theorem IsShape_eq {c : XCategory} (h : SmallC c) : M.spec_IsShape c = some (decide (Shape c)) := by
  apply Ret.ask
  obtain ⟨s1, s2, s3, s4, s5⟩ := h
  unfold M.spec_IsShape
  simp only [decide_eq_true_eq, bne_iff_ne, ne_eq]
  (repeat' (first | with_reducible refine Ret.pos ‹_› ?_ | with_reducible refine Ret.neg ‹_› ?_ | with_reducible refine Ret.neg (Int.lt_irrefl _) ?_ | with_reducible refine Ret.ite (fun _ => ?_) (fun _ => ?_) | with_reducible refine Ret.idx ?_ ?_ ?_ | with_reducible refine Ret.chk ?_ ?_ | with_reducible refine hn3 ?_ | with_reducible refine hn2 ?_ | with_reducible refine hn1 ?_ | with_reducible refine hn3 _ ?_ | with_reducible refine hn2 _ ?_ | with_reducible refine hn1 _ ?_ | with_reducible refine Ret.call (l01In_eq _ _ _) ?_ | with_reducible refine Ret.call (l02Ends_eq ?_) ?_ | with_reducible refine Ret.call (l01Map_eq ?_) ?_ | with_reducible refine Ret.some ?_))
  all_goals (try ((fail_if_success (with_reducible refine Ret.probe ?_)); grind [Shape]))
  refine Ret.all c.Objects (fun i => el c.From (el c.Identity i) = i ∧ el c.To (el c.Identity i) = i) ?_ ?_ ?_ ?_
  · grind
  · grind
  · intro i next hi0 hi1 hp hn1
    (repeat' (first | with_reducible refine Ret.pos ‹_› ?_ | with_reducible refine Ret.neg ‹_› ?_ | with_reducible refine Ret.neg (Int.lt_irrefl _) ?_ | with_reducible refine Ret.ite (fun _ => ?_) (fun _ => ?_) | with_reducible refine Ret.idx ?_ ?_ ?_ | with_reducible refine Ret.chk ?_ ?_ | with_reducible refine hn3 ?_ | with_reducible refine hn2 ?_ | with_reducible refine hn1 ?_ | with_reducible refine hn3 _ ?_ | with_reducible refine hn2 _ ?_ | with_reducible refine hn1 _ ?_ | with_reducible refine Ret.some ?_))
    all_goals (try ((fail_if_success (with_reducible refine Ret.probe ?_)); grind [Shape]))
  · intro next hpI
    (repeat' (first | with_reducible refine Ret.pos ‹_› ?_ | with_reducible refine Ret.neg ‹_› ?_ | with_reducible refine Ret.neg (Int.lt_irrefl _) ?_ | with_reducible refine Ret.ite (fun _ => ?_) (fun _ => ?_) | with_reducible refine Ret.idx ?_ ?_ ?_ | with_reducible refine Ret.chk ?_ ?_ | with_reducible refine hn3 ?_ | with_reducible refine hn2 ?_ | with_reducible refine hn1 ?_ | with_reducible refine hn3 _ ?_ | with_reducible refine hn2 _ ?_ | with_reducible refine hn1 _ ?_ | with_reducible refine Ret.some ?_))
    all_goals (try ((fail_if_success (with_reducible refine Ret.probe ?_)); grind))
    refine Ret.all (c.From.length : Int) (fun i => ((el c.Composites i).length : Int) = (c.From.length : Int) ∧ ∀ j, 0 ≤ j → j < (c.From.length : Int) → CompOk c i j) (by omega) (by omega) ?_ ?_
    · intro i next hi0 hi1 hp hn1
      (repeat' (first | with_reducible refine Ret.pos ‹_› ?_ | with_reducible refine Ret.neg ‹_› ?_ | with_reducible refine Ret.neg (Int.lt_irrefl _) ?_ | with_reducible refine Ret.ite (fun _ => ?_) (fun _ => ?_) | with_reducible refine Ret.idx ?_ ?_ ?_ | with_reducible refine Ret.chk ?_ ?_ | with_reducible refine hn3 ?_ | with_reducible refine hn2 ?_ | with_reducible refine hn1 ?_ | with_reducible refine hn3 _ ?_ | with_reducible refine hn2 _ ?_ | with_reducible refine hn1 _ ?_ | with_reducible refine Ret.some ?_))
      all_goals (try ((fail_if_success (with_reducible refine Ret.probe ?_)); grind [Shape]))
      refine Ret.all (c.From.length : Int) (fun j => CompOk c i j) (by omega) (by omega) ?_ ?_
      · intro j next hj0 hj1 hp2 hn2
        (repeat' (first | with_reducible refine Ret.pos ‹_› ?_ | with_reducible refine Ret.neg ‹_› ?_ | with_reducible refine Ret.neg (Int.lt_irrefl _) ?_ | with_reducible refine Ret.ite (fun _ => ?_) (fun _ => ?_) | with_reducible refine Ret.idx ?_ ?_ ?_ | with_reducible refine Ret.chk ?_ ?_ | with_reducible refine hn3 ?_ | with_reducible refine hn2 ?_ | with_reducible refine hn1 ?_ | with_reducible refine hn3 _ ?_ | with_reducible refine hn2 _ ?_ | with_reducible refine hn1 _ ?_ | with_reducible refine Ret.some ?_))
        all_goals (try ((fail_if_success (with_reducible refine Ret.probe ?_)); grind [Shape, CompOk]))
      · intro next hp2
        (repeat' (first | with_reducible refine Ret.pos ‹_› ?_ | with_reducible refine Ret.neg ‹_› ?_ | with_reducible refine Ret.neg (Int.lt_irrefl _) ?_ | with_reducible refine Ret.ite (fun _ => ?_) (fun _ => ?_) | with_reducible refine Ret.idx ?_ ?_ ?_ | with_reducible refine Ret.chk ?_ ?_ | with_reducible refine hn3 ?_ | with_reducible refine hn2 ?_ | with_reducible refine hn1 ?_ | with_reducible refine hn3 _ ?_ | with_reducible refine hn2 _ ?_ | with_reducible refine hn1 _ ?_ | with_reducible refine Ret.some ?_))
        all_goals (try ((fail_if_success (with_reducible refine Ret.probe ?_)); grind))
    · intro next hp
      (repeat' (first | with_reducible refine Ret.pos ‹_› ?_ | with_reducible refine Ret.neg ‹_› ?_ | with_reducible refine Ret.neg (Int.lt_irrefl _) ?_ | with_reducible refine Ret.ite (fun _ => ?_) (fun _ => ?_) | with_reducible refine Ret.idx ?_ ?_ ?_ | with_reducible refine Ret.chk ?_ ?_ | with_reducible refine hn3 ?_ | with_reducible refine hn2 ?_ | with_reducible refine hn1 ?_ | with_reducible refine hn3 _ ?_ | with_reducible refine hn2 _ ?_ | with_reducible refine hn1 _ ?_ | with_reducible refine Ret.some ?_))
      all_goals (try ((fail_if_success (with_reducible refine Ret.probe ?_)); grind [Shape]))

theorem ends_eq {c : XCategory} {y : Int} (h0 : 0 ≤ y) (h1 : y < (c.From.length : Int)) (h2 : y < (c.To.length : Int)) : M.impl_Category_ends c y = some ⟨el c.From y, el c.To y⟩ := by
  unfold M.impl_Category_ends
  rw [idx_el h0 h1, idx_el h0 h2]; rfl

theorem isShape_eq {c : XCategory} (h : SmallC c) : M.impl_Category_isShape c = some (decide (Shape c)) := by
  apply Ret.ask
  obtain ⟨s1, s2, s3, s4, s5⟩ := h
  unfold M.impl_Category_isShape M.impl_Category_arrows
  have hw : IntKind.i64.wrap ((c.From.length : Int) - 1) = (c.From.length : Int) - 1 := wrap_in (by omega) (by omega)
  simp only [decide_eq_true_eq, bne_iff_ne, ne_eq, Option.bind_some, hw]
  (repeat' (first | with_reducible refine Ret.pos ‹_› ?_ | with_reducible refine Ret.neg ‹_› ?_ | with_reducible refine Ret.neg (Int.lt_irrefl _) ?_ | with_reducible refine Ret.ite (fun _ => ?_) (fun _ => ?_) | with_reducible refine Ret.idx ?_ ?_ ?_ | with_reducible refine Ret.chk ?_ ?_ | with_reducible refine hn3 ?_ | with_reducible refine hn2 ?_ | with_reducible refine hn1 ?_ | with_reducible refine hn3 _ ?_ | with_reducible refine hn2 _ ?_ | with_reducible refine hn1 _ ?_ | with_reducible refine Ret.call (inRange_eq _ _ _) ?_ | with_reducible refine Ret.call (within_eq ?_ ?_ ?_) ?_ | with_reducible refine Ret.some ?_))
  all_goals (try ((fail_if_success (with_reducible refine Ret.probe ?_)); grind [Shape]))
  refine Ret.all (c.Identity.length : Int) (fun i => el c.From (el c.Identity i) = i ∧ el c.To (el c.Identity i) = i) ?_ ?_ ?_ ?_
  · grind
  · grind
  · intro i next hi0 hi1 hp hn1
    (repeat' (first | with_reducible refine Ret.pos ‹_› ?_ | with_reducible refine Ret.neg ‹_› ?_ | with_reducible refine Ret.neg (Int.lt_irrefl _) ?_ | with_reducible refine Ret.ite (fun _ => ?_) (fun _ => ?_) | with_reducible refine Ret.idx ?_ ?_ ?_ | with_reducible refine Ret.chk ?_ ?_ | with_reducible refine hn3 ?_ | with_reducible refine hn2 ?_ | with_reducible refine hn1 ?_ | with_reducible refine hn3 _ ?_ | with_reducible refine hn2 _ ?_ | with_reducible refine hn1 _ ?_ | with_reducible refine Ret.call (ends_eq ?_ ?_ ?_) ?_ | with_reducible refine Ret.some ?_))
    all_goals (try ((fail_if_success (with_reducible refine Ret.probe ?_)); grind [Shape]))
  · intro next hpI
    (repeat' (first | with_reducible refine Ret.pos ‹_› ?_ | with_reducible refine Ret.neg ‹_› ?_ | with_reducible refine Ret.neg (Int.lt_irrefl _) ?_ | with_reducible refine Ret.ite (fun _ => ?_) (fun _ => ?_) | with_reducible refine Ret.idx ?_ ?_ ?_ | with_reducible refine Ret.chk ?_ ?_ | with_reducible refine hn3 ?_ | with_reducible refine hn2 ?_ | with_reducible refine hn1 ?_ | with_reducible refine hn3 _ ?_ | with_reducible refine hn2 _ ?_ | with_reducible refine hn1 _ ?_ | with_reducible refine Ret.some ?_))
    all_goals (try ((fail_if_success (with_reducible refine Ret.probe ?_)); grind))
    refine Ret.all (c.Composites.length : Int) (fun i => ((el c.Composites i).length : Int) = (c.From.length : Int) ∧ ∀ j, 0 ≤ j → j < (c.From.length : Int) → CompOk c i j) (by omega) (by omega) ?_ ?_
    · intro i next hi0 hi1 hp hn1
      (repeat' (first | with_reducible refine Ret.pos ‹_› ?_ | with_reducible refine Ret.neg ‹_› ?_ | with_reducible refine Ret.neg (Int.lt_irrefl _) ?_ | with_reducible refine Ret.ite (fun _ => ?_) (fun _ => ?_) | with_reducible refine Ret.idx ?_ ?_ ?_ | with_reducible refine Ret.chk ?_ ?_ | with_reducible refine hn3 ?_ | with_reducible refine hn2 ?_ | with_reducible refine hn1 ?_ | with_reducible refine hn3 _ ?_ | with_reducible refine hn2 _ ?_ | with_reducible refine hn1 _ ?_ | with_reducible refine Ret.some ?_))
      all_goals (try ((fail_if_success (with_reducible refine Ret.probe ?_)); grind [Shape]))
      refine Ret.all ((el c.Composites i).length : Int) (fun j => CompOk c i j) (by omega) (by omega) ?_ ?_
      · intro j next hj0 hj1 hp2 hn2
        (repeat' (first | with_reducible refine Ret.pos ‹_› ?_ | with_reducible refine Ret.neg ‹_› ?_ | with_reducible refine Ret.neg (Int.lt_irrefl _) ?_ | with_reducible refine Ret.ite (fun _ => ?_) (fun _ => ?_) | with_reducible refine Ret.idx ?_ ?_ ?_ | with_reducible refine Ret.chk ?_ ?_ | with_reducible refine hn3 ?_ | with_reducible refine hn2 ?_ | with_reducible refine hn1 ?_ | with_reducible refine hn3 _ ?_ | with_reducible refine hn2 _ ?_ | with_reducible refine hn1 _ ?_ | with_reducible refine Ret.call (inRange_eq _ _ _) ?_ | with_reducible refine Ret.call (ends_eq ?_ ?_ ?_) ?_ | with_reducible refine Ret.some ?_))
        all_goals (try ((fail_if_success (with_reducible refine Ret.probe ?_)); grind [Shape, CompOk]))
      · intro next hp2
        (repeat' (first | with_reducible refine Ret.pos ‹_› ?_ | with_reducible refine Ret.neg ‹_› ?_ | with_reducible refine Ret.neg (Int.lt_irrefl _) ?_ | with_reducible refine Ret.ite (fun _ => ?_) (fun _ => ?_) | with_reducible refine Ret.idx ?_ ?_ ?_ | with_reducible refine Ret.chk ?_ ?_ | with_reducible refine hn3 ?_ | with_reducible refine hn2 ?_ | with_reducible refine hn1 ?_ | with_reducible refine hn3 _ ?_ | with_reducible refine hn2 _ ?_ | with_reducible refine hn1 _ ?_ | with_reducible refine Ret.some ?_))
        all_goals (try ((fail_if_success (with_reducible refine Ret.probe ?_)); grind))
    · intro next hp
      (repeat' (first | with_reducible refine Ret.pos ‹_› ?_ | with_reducible refine Ret.neg ‹_› ?_ | with_reducible refine Ret.neg (Int.lt_irrefl _) ?_ | with_reducible refine Ret.ite (fun _ => ?_) (fun _ => ?_) | with_reducible refine Ret.idx ?_ ?_ ?_ | with_reducible refine Ret.chk ?_ ?_ | with_reducible refine hn3 ?_ | with_reducible refine hn2 ?_ | with_reducible refine hn1 ?_ | with_reducible refine hn3 _ ?_ | with_reducible refine hn2 _ ?_ | with_reducible refine hn1 _ ?_ | with_reducible refine Ret.some ?_))
      rename_i b1 b2 b3 b4 b5 b6 b7 b8 nx
      simp only [Bool.and_eq_true, decide_eq_true_eq, Decidable.not_not] at b1 b2 b3 b4 b5 b6 b7 b8
      exact ⟨fun _ => ⟨b1.1, b1.2, by omega, b3, b6, b8, b4, b5, b7, fun i h0 h1 => hpI i h0 (by omega), fun i h0 h1 => hp i h0 (by omega)⟩, fun _ => rfl⟩

end Go.Gx

/- Plain laws: the laws of a category, and functors. -/
namespace Go.Gx
open Classical
set_option maxHeartbeats 4000000

def NoFault (c : XCategory) : Prop :=
  (∀ f, 0 ≤ f → f < (c.From.length : Int) → cmp c (el c.Identity (el c.From f)) f = f ∧ cmp c f (el c.Identity (el c.To f)) = f) ∧
  (∀ f g h, 0 ≤ f → f < (c.From.length : Int) → 0 ≤ g → g < (c.From.length : Int) → 0 ≤ h → h < (c.From.length : Int) → el c.To f = el c.From g → el c.To g = el c.From h →
    cmp c (cmp c f g) h = cmp c f (cmp c g h))

/-- The parts of a shape, ready to be used. -/
structure Shp (c : XCategory) : Prop where
  n0 : 0 ≤ c.Objects
  n8 : c.Objects ≤ 8
  m40 : (c.From.length : Int) ≤ 40
  lto : (c.To.length : Int) = (c.From.length : Int)
  lid : (c.Identity.length : Int) = c.Objects
  lco : (c.Composites.length : Int) = (c.From.length : Int)
  from_in : ∀ i, 0 ≤ i → i < (c.From.length : Int) → 0 ≤ el c.From i ∧ el c.From i < c.Objects
  to_in : ∀ i, 0 ≤ i → i < (c.From.length : Int) → 0 ≤ el c.To i ∧ el c.To i < c.Objects
  id_in : ∀ i, 0 ≤ i → i < c.Objects → 0 ≤ el c.Identity i ∧ el c.Identity i < (c.From.length : Int)
  id_from : ∀ i, 0 ≤ i → i < c.Objects → el c.From (el c.Identity i) = i
  id_to : ∀ i, 0 ≤ i → i < c.Objects → el c.To (el c.Identity i) = i
  row : ∀ i, 0 ≤ i → i < (c.From.length : Int) → ((el c.Composites i).length : Int) = (c.From.length : Int)
  no : ∀ i j, 0 ≤ i → i < (c.From.length : Int) → 0 ≤ j → j < (c.From.length : Int) → el c.To i ≠ el c.From j → cmp c i j = -1
  yes : ∀ i j, 0 ≤ i → i < (c.From.length : Int) → 0 ≤ j → j < (c.From.length : Int) → el c.To i = el c.From j → 0 ≤ cmp c i j ∧ cmp c i j < (c.From.length : Int)
  cfrom : ∀ i j, 0 ≤ i → i < (c.From.length : Int) → 0 ≤ j → j < (c.From.length : Int) → el c.To i = el c.From j → el c.From (cmp c i j) = el c.From i
  cto : ∀ i j, 0 ≤ i → i < (c.From.length : Int) → 0 ≤ j → j < (c.From.length : Int) → el c.To i = el c.From j → el c.To (cmp c i j) = el c.To j

theorem Shape.shp {c : XCategory} (h : Shape c) : Shp c := by
  obtain ⟨h1, h2, h3, h4, h5, h6, h7, h8, h9, h10, h11⟩ := h
  refine ⟨h1, h2, h3, h4, h5, h6, h7, fun i h0 hi => h8 i h0 (by omega), fun i h0 hi => h9 i h0 (by omega), fun i h0 hi => (h10 i h0 hi).1, fun i h0 hi => (h10 i h0 hi).2, fun i h0 hi => (h11 i h0 hi).1, ?_, ?_, ?_, ?_⟩
  · intro i j hi0 hi1 hj0 hj1 hne
    exact ((h11 i hi0 hi1).2 j hj0 hj1).1 hne
  · intro i j hi0 hi1 hj0 hj1 he
    have := ((h11 i hi0 hi1).2 j hj0 hj1).2 he
    exact ⟨this.1, this.2.1⟩
  · intro i j hi0 hi1 hj0 hj1 he
    exact (((h11 i hi0 hi1).2 j hj0 hj1).2 he).2.2.1
  · intro i j hi0 hi1 hj0 hj1 he
    exact (((h11 i hi0 hi1).2 j hj0 hj1).2 he).2.2.2

theorem Shp.small {c : XCategory} (h : Shp c) : SmallC c := by
  obtain ⟨h1, h2, h3, h4, h5, h6, h7, h8, h9, h10, h11, h12, h13, h14, h15, h16⟩ := h
  refine ⟨by omega, by omega, by omega, by omega, fun r hr => ?_⟩
  obtain ⟨i, h0, h1', rfl⟩ := mem_el hr
  have := h12 i h0 (by omega)
  omega

theorem then_eq {c : XCategory} {i j : Int} (h0 : 0 ≤ i) (h1 : i < (c.Composites.length : Int)) (h2 : 0 ≤ j) (h3 : j < ((el c.Composites i).length : Int)) : M.impl_Category_then c i j = some (cmp c i j) := by
  unfold M.impl_Category_then
  rw [idx_el h0 h1]
  show (idx (el c.Composites i) j).bind _ = _
  rw [idx_el h2 h3]; rfl

theorem l02Fault_r {c : XCategory} (h : Shp c) : Ret (M.spec_l02Fault c) fun r => r.1 = 0 ↔ NoFault c := by
  obtain ⟨h1, h2, h3, h4, h5, h6, h7, h8, h9, h10, h11, h12, h13, h14, h15, h16⟩ := h
  unfold M.spec_l02Fault
  simp only [decide_eq_true_eq, beq_iff_eq, bne_iff_ne, ne_eq]
  refine Ret.all (c.From.length : Int) (fun f => cmp c (el c.Identity (el c.From f)) f = f ∧ cmp c f (el c.Identity (el c.To f)) = f) (by omega) (by omega) ?_ ?_
  · intro i next hi0 hi1 hp hn1
    have := h7 i hi0 hi1
    have := h8 i hi0 hi1
    have hno : ¬ (cmp c (el c.Identity (el c.From i)) i = i ∧ cmp c i (el c.Identity (el c.To i)) = i) → ¬ NoFault c := fun hx hN => hx (hN.1 i hi0 hi1)
    (repeat' (first | with_reducible refine Ret.pos ‹_› ?_ | with_reducible refine Ret.neg ‹_› ?_ | with_reducible refine Ret.neg (Int.lt_irrefl _) ?_ | with_reducible refine Ret.ite (fun _ => ?_) (fun _ => ?_) | with_reducible refine Ret.idx ?_ ?_ ?_ | with_reducible refine Ret.chk ?_ ?_ | with_reducible refine hn3 ?_ | with_reducible refine hn2 ?_ | with_reducible refine hn1 ?_ | with_reducible refine hn3 _ ?_ | with_reducible refine hn2 _ ?_ | with_reducible refine hn1 _ ?_ | with_reducible refine Ret.some ?_))
    all_goals (try ((fail_if_success (with_reducible refine Ret.probe ?_)); grind))
  · intro next hpI
    (repeat' (first | with_reducible refine Ret.pos ‹_› ?_ | with_reducible refine Ret.neg ‹_› ?_ | with_reducible refine Ret.neg (Int.lt_irrefl _) ?_ | with_reducible refine Ret.ite (fun _ => ?_) (fun _ => ?_) | with_reducible refine Ret.idx ?_ ?_ ?_ | with_reducible refine Ret.chk ?_ ?_ | with_reducible refine hn3 ?_ | with_reducible refine hn2 ?_ | with_reducible refine hn1 ?_ | with_reducible refine hn3 _ ?_ | with_reducible refine hn2 _ ?_ | with_reducible refine hn1 _ ?_ | with_reducible refine Ret.some ?_))
    all_goals (try ((fail_if_success (with_reducible refine Ret.probe ?_)); grind))
    refine Ret.all (c.From.length : Int) (fun f => ∀ g h, 0 ≤ g → g < (c.From.length : Int) → 0 ≤ h → h < (c.From.length : Int) → el c.To f = el c.From g → el c.To g = el c.From h → cmp c (cmp c f g) h = cmp c f (cmp c g h)) (by omega) (by omega) ?_ ?_
    · intro f next hf0 hf1 hp hn1
      (repeat' (first | with_reducible refine Ret.pos ‹_› ?_ | with_reducible refine Ret.neg ‹_› ?_ | with_reducible refine Ret.neg (Int.lt_irrefl _) ?_ | with_reducible refine Ret.ite (fun _ => ?_) (fun _ => ?_) | with_reducible refine Ret.idx ?_ ?_ ?_ | with_reducible refine Ret.chk ?_ ?_ | with_reducible refine hn3 ?_ | with_reducible refine hn2 ?_ | with_reducible refine hn1 ?_ | with_reducible refine hn3 _ ?_ | with_reducible refine hn2 _ ?_ | with_reducible refine hn1 _ ?_ | with_reducible refine Ret.some ?_))
      all_goals (try ((fail_if_success (with_reducible refine Ret.probe ?_)); grind))
      refine Ret.all (c.From.length : Int) (fun g => ∀ h, 0 ≤ h → h < (c.From.length : Int) → el c.To f = el c.From g → el c.To g = el c.From h → cmp c (cmp c f g) h = cmp c f (cmp c g h)) (by omega) (by omega) ?_ ?_
      · intro g next hg0 hg1 hp2 hn2
        (repeat' (first | with_reducible refine Ret.pos ‹_› ?_ | with_reducible refine Ret.neg ‹_› ?_ | with_reducible refine Ret.neg (Int.lt_irrefl _) ?_ | with_reducible refine Ret.ite (fun _ => ?_) (fun _ => ?_) | with_reducible refine Ret.idx ?_ ?_ ?_ | with_reducible refine Ret.chk ?_ ?_ | with_reducible refine hn3 ?_ | with_reducible refine hn2 ?_ | with_reducible refine hn1 ?_ | with_reducible refine hn3 _ ?_ | with_reducible refine hn2 _ ?_ | with_reducible refine hn1 _ ?_ | with_reducible refine Ret.some ?_))
        all_goals (try ((fail_if_success (with_reducible refine Ret.probe ?_)); grind))
        refine Ret.all (c.From.length : Int) (fun h => el c.To f = el c.From g → el c.To g = el c.From h → cmp c (cmp c f g) h = cmp c f (cmp c g h)) (by omega) (by omega) ?_ ?_
        · intro h next hh0 hh1 hp3 hn3
          have hno : ¬ (el c.To f = el c.From g → el c.To g = el c.From h → cmp c (cmp c f g) h = cmp c f (cmp c g h)) → ¬ NoFault c := fun hx hN => hx (hN.2 f g h hf0 hf1 hg0 hg1 hh0 hh1)
          (repeat' (first | with_reducible refine Ret.pos ‹_› ?_ | with_reducible refine Ret.neg ‹_› ?_ | with_reducible refine Ret.neg (Int.lt_irrefl _) ?_ | with_reducible refine Ret.ite (fun _ => ?_) (fun _ => ?_) | with_reducible refine Ret.idx ?_ ?_ ?_ | with_reducible refine Ret.chk ?_ ?_ | with_reducible refine hn3 ?_ | with_reducible refine hn2 ?_ | with_reducible refine hn1 ?_ | with_reducible refine hn3 _ ?_ | with_reducible refine hn2 _ ?_ | with_reducible refine hn1 _ ?_ | with_reducible refine Ret.some ?_))
          all_goals (try ((fail_if_success (with_reducible refine Ret.probe ?_)); grind))
        · intro next hp3
          (repeat' (first | with_reducible refine Ret.pos ‹_› ?_ | with_reducible refine Ret.neg ‹_› ?_ | with_reducible refine Ret.neg (Int.lt_irrefl _) ?_ | with_reducible refine Ret.ite (fun _ => ?_) (fun _ => ?_) | with_reducible refine Ret.idx ?_ ?_ ?_ | with_reducible refine Ret.chk ?_ ?_ | with_reducible refine hn3 ?_ | with_reducible refine hn2 ?_ | with_reducible refine hn1 ?_ | with_reducible refine hn3 _ ?_ | with_reducible refine hn2 _ ?_ | with_reducible refine hn1 _ ?_ | with_reducible refine Ret.some ?_))
          all_goals (try ((fail_if_success (with_reducible refine Ret.probe ?_)); grind))
      · intro next hp2
        (repeat' (first | with_reducible refine Ret.pos ‹_› ?_ | with_reducible refine Ret.neg ‹_› ?_ | with_reducible refine Ret.neg (Int.lt_irrefl _) ?_ | with_reducible refine Ret.ite (fun _ => ?_) (fun _ => ?_) | with_reducible refine Ret.idx ?_ ?_ ?_ | with_reducible refine Ret.chk ?_ ?_ | with_reducible refine hn3 ?_ | with_reducible refine hn2 ?_ | with_reducible refine hn1 ?_ | with_reducible refine hn3 _ ?_ | with_reducible refine hn2 _ ?_ | with_reducible refine hn1 _ ?_ | with_reducible refine Ret.some ?_))
        all_goals (try ((fail_if_success (with_reducible refine Ret.probe ?_)); grind))
    · intro next hp
      (repeat' (first | with_reducible refine Ret.pos ‹_› ?_ | with_reducible refine Ret.neg ‹_› ?_ | with_reducible refine Ret.neg (Int.lt_irrefl _) ?_ | with_reducible refine Ret.ite (fun _ => ?_) (fun _ => ?_) | with_reducible refine Ret.idx ?_ ?_ ?_ | with_reducible refine Ret.chk ?_ ?_ | with_reducible refine hn3 ?_ | with_reducible refine hn2 ?_ | with_reducible refine hn1 ?_ | with_reducible refine hn3 _ ?_ | with_reducible refine hn2 _ ?_ | with_reducible refine hn1 _ ?_ | with_reducible refine Ret.some ?_))
      exact ⟨fun _ => ⟨hpI, fun f g h a1 a2 a3 a4 a5 a6 => hp f a1 a2 g h a3 a4 a5 a6⟩, fun _ => rfl⟩

theorem fault_r {c : XCategory} (h : Shp c) : Ret (M.impl_Category_fault c) fun r => r.1 = 0 ↔ NoFault c := by
  obtain ⟨h1, h2, h3, h4, h5, h6, h7, h8, h9, h10, h11, h12, h13, h14, h15, h16⟩ := h
  unfold M.impl_Category_fault M.impl_Category_arrows
  simp only [decide_eq_true_eq, bne_iff_ne, ne_eq, Option.bind_some]
  refine Ret.all (c.From.length : Int) (fun f => cmp c (el c.Identity (el c.From f)) f = f ∧ cmp c f (el c.Identity (el c.To f)) = f) (by omega) (by omega) ?_ ?_
  · intro i next hi0 hi1 hp hn1
    have := h7 i hi0 hi1
    have := h8 i hi0 hi1
    have hno : ¬ (cmp c (el c.Identity (el c.From i)) i = i ∧ cmp c i (el c.Identity (el c.To i)) = i) → ¬ NoFault c := fun hx hN => hx (hN.1 i hi0 hi1)
    (repeat' (first | with_reducible refine Ret.pos ‹_› ?_ | with_reducible refine Ret.neg ‹_› ?_ | with_reducible refine Ret.neg (Int.lt_irrefl _) ?_ | with_reducible refine Ret.ite (fun _ => ?_) (fun _ => ?_) | with_reducible refine Ret.idx ?_ ?_ ?_ | with_reducible refine Ret.chk ?_ ?_ | with_reducible refine hn3 ?_ | with_reducible refine hn2 ?_ | with_reducible refine hn1 ?_ | with_reducible refine hn3 _ ?_ | with_reducible refine hn2 _ ?_ | with_reducible refine hn1 _ ?_ | with_reducible refine Ret.call (then_eq ?_ ?_ ?_ ?_) ?_ | with_reducible refine Ret.some ?_))
    all_goals (try ((fail_if_success (with_reducible refine Ret.probe ?_)); grind))
  · intro next hpI
    (repeat' (first | with_reducible refine Ret.pos ‹_› ?_ | with_reducible refine Ret.neg ‹_› ?_ | with_reducible refine Ret.neg (Int.lt_irrefl _) ?_ | with_reducible refine Ret.ite (fun _ => ?_) (fun _ => ?_) | with_reducible refine Ret.idx ?_ ?_ ?_ | with_reducible refine Ret.chk ?_ ?_ | with_reducible refine hn3 ?_ | with_reducible refine hn2 ?_ | with_reducible refine hn1 ?_ | with_reducible refine hn3 _ ?_ | with_reducible refine hn2 _ ?_ | with_reducible refine hn1 _ ?_ | with_reducible refine Ret.some ?_))
    all_goals (try ((fail_if_success (with_reducible refine Ret.probe ?_)); grind))
    refine Ret.all (c.From.length : Int) (fun f => ∀ g h, 0 ≤ g → g < (c.From.length : Int) → 0 ≤ h → h < (c.From.length : Int) → el c.To f = el c.From g → el c.To g = el c.From h → cmp c (cmp c f g) h = cmp c f (cmp c g h)) (by omega) (by omega) ?_ ?_
    · intro f next hf0 hf1 hp hn1
      (repeat' (first | with_reducible refine Ret.pos ‹_› ?_ | with_reducible refine Ret.neg ‹_› ?_ | with_reducible refine Ret.neg (Int.lt_irrefl _) ?_ | with_reducible refine Ret.ite (fun _ => ?_) (fun _ => ?_) | with_reducible refine Ret.idx ?_ ?_ ?_ | with_reducible refine Ret.chk ?_ ?_ | with_reducible refine hn3 ?_ | with_reducible refine hn2 ?_ | with_reducible refine hn1 ?_ | with_reducible refine hn3 _ ?_ | with_reducible refine hn2 _ ?_ | with_reducible refine hn1 _ ?_ | with_reducible refine Ret.some ?_))
      all_goals (try ((fail_if_success (with_reducible refine Ret.probe ?_)); grind))
      refine Ret.all (c.From.length : Int) (fun g => ∀ h, 0 ≤ h → h < (c.From.length : Int) → el c.To f = el c.From g → el c.To g = el c.From h → cmp c (cmp c f g) h = cmp c f (cmp c g h)) (by omega) (by omega) ?_ ?_
      · intro g next hg0 hg1 hp2 hn2
        have := h13 f g hf0 hf1 hg0 hg1
        have := h14 f g hf0 hf1 hg0 hg1
        (repeat' (first | with_reducible refine Ret.pos ‹_› ?_ | with_reducible refine Ret.neg ‹_› ?_ | with_reducible refine Ret.neg (Int.lt_irrefl _) ?_ | with_reducible refine Ret.ite (fun _ => ?_) (fun _ => ?_) | with_reducible refine Ret.idx ?_ ?_ ?_ | with_reducible refine Ret.chk ?_ ?_ | with_reducible refine hn3 ?_ | with_reducible refine hn2 ?_ | with_reducible refine hn1 ?_ | with_reducible refine hn3 _ ?_ | with_reducible refine hn2 _ ?_ | with_reducible refine hn1 _ ?_ | with_reducible refine Ret.call (then_eq ?_ ?_ ?_ ?_) ?_ | with_reducible refine Ret.some ?_))
        all_goals (try ((fail_if_success (with_reducible refine Ret.probe ?_)); grind))
        refine Ret.all (c.From.length : Int) (fun h => el c.To f = el c.From g → el c.To g = el c.From h → cmp c (cmp c f g) h = cmp c f (cmp c g h)) (by omega) (by omega) ?_ ?_
        · intro h next hh0 hh1 hp3 hn3
          have := h13 g h hg0 hg1 hh0 hh1
          have := h14 g h hg0 hg1 hh0 hh1
          have hno : ¬ (el c.To f = el c.From g → el c.To g = el c.From h → cmp c (cmp c f g) h = cmp c f (cmp c g h)) → ¬ NoFault c := fun hx hN => hx (hN.2 f g h hf0 hf1 hg0 hg1 hh0 hh1)
          (repeat' (first | with_reducible refine Ret.pos ‹_› ?_ | with_reducible refine Ret.neg ‹_› ?_ | with_reducible refine Ret.neg (Int.lt_irrefl _) ?_ | with_reducible refine Ret.ite (fun _ => ?_) (fun _ => ?_) | with_reducible refine Ret.idx ?_ ?_ ?_ | with_reducible refine Ret.chk ?_ ?_ | with_reducible refine hn3 ?_ | with_reducible refine hn2 ?_ | with_reducible refine hn1 ?_ | with_reducible refine hn3 _ ?_ | with_reducible refine hn2 _ ?_ | with_reducible refine hn1 _ ?_ | with_reducible refine Ret.call (then_eq ?_ ?_ ?_ ?_) ?_ | with_reducible refine Ret.some ?_))
          all_goals (try ((fail_if_success (with_reducible refine Ret.probe ?_)); grind))
        · intro next hp3
          (repeat' (first | with_reducible refine Ret.pos ‹_› ?_ | with_reducible refine Ret.neg ‹_› ?_ | with_reducible refine Ret.neg (Int.lt_irrefl _) ?_ | with_reducible refine Ret.ite (fun _ => ?_) (fun _ => ?_) | with_reducible refine Ret.idx ?_ ?_ ?_ | with_reducible refine Ret.chk ?_ ?_ | with_reducible refine hn3 ?_ | with_reducible refine hn2 ?_ | with_reducible refine hn1 ?_ | with_reducible refine hn3 _ ?_ | with_reducible refine hn2 _ ?_ | with_reducible refine hn1 _ ?_ | with_reducible refine Ret.some ?_))
          all_goals (try ((fail_if_success (with_reducible refine Ret.probe ?_)); grind))
      · intro next hp2
        (repeat' (first | with_reducible refine Ret.pos ‹_› ?_ | with_reducible refine Ret.neg ‹_› ?_ | with_reducible refine Ret.neg (Int.lt_irrefl _) ?_ | with_reducible refine Ret.ite (fun _ => ?_) (fun _ => ?_) | with_reducible refine Ret.idx ?_ ?_ ?_ | with_reducible refine Ret.chk ?_ ?_ | with_reducible refine hn3 ?_ | with_reducible refine hn2 ?_ | with_reducible refine hn1 ?_ | with_reducible refine hn3 _ ?_ | with_reducible refine hn2 _ ?_ | with_reducible refine hn1 _ ?_ | with_reducible refine Ret.some ?_))
        all_goals (try ((fail_if_success (with_reducible refine Ret.probe ?_)); grind))
    · intro next hp
      (repeat' (first | with_reducible refine Ret.pos ‹_› ?_ | with_reducible refine Ret.neg ‹_› ?_ | with_reducible refine Ret.neg (Int.lt_irrefl _) ?_ | with_reducible refine Ret.ite (fun _ => ?_) (fun _ => ?_) | with_reducible refine Ret.idx ?_ ?_ ?_ | with_reducible refine Ret.chk ?_ ?_ | with_reducible refine hn3 ?_ | with_reducible refine hn2 ?_ | with_reducible refine hn1 ?_ | with_reducible refine hn3 _ ?_ | with_reducible refine hn2 _ ?_ | with_reducible refine hn1 _ ?_ | with_reducible refine Ret.some ?_))
      exact ⟨fun _ => ⟨hpI, fun f g h a1 a2 a3 a4 a5 a6 => hp f a1 a2 g h a3 a4 a5 a6⟩, fun _ => rfl⟩

def IsCat (c : XCategory) : Prop := Shape c ∧ NoFault c

theorem l02Is_eq {c : XCategory} (h : SmallC c) : M.spec_l02Is c = some (decide (IsCat c)) := by
  apply Ret.ask
  unfold M.spec_l02Is
  refine Ret.call (IsShape_eq h) ?_
  simp only [decide_eq_true_eq]
  refine Ret.ite (fun hs => ?_) (fun hs => ?_)
  · refine Ret.bind (l02Fault_r hs.shp) fun r hr => Ret.some ?_
    rw [beq_iff_eq, hr]
    exact ⟨fun x => ⟨hs, x⟩, fun x => x.2⟩
  · refine Ret.some ?_
    simp only [Bool.false_eq_true, false_iff]
    exact fun x => hs x.1

theorem isCategory_eq {c : XCategory} (h : SmallC c) : M.impl_Category_isCategory c = some (decide (IsCat c)) := by
  apply Ret.ask
  unfold M.impl_Category_isCategory
  refine Ret.call (isShape_eq h) ?_
  simp only [decide_eq_true_eq]
  refine Ret.ite (fun hs => ?_) (fun hs => ?_)
  · refine Ret.bind (fault_r hs.shp) fun r hr => Ret.some ?_
    rw [beq_iff_eq, hr]
    exact ⟨fun x => ⟨hs, x⟩, fun x => x.2⟩
  · refine Ret.some ?_
    simp only [Bool.false_eq_true, false_iff]
    exact fun x => hs x.1

end Go.Gx

/- Plain laws: functors. -/
namespace Go.Gx
open Classical
set_option maxHeartbeats 4000000

/-! ### functors -/

structure FunOk (f : XFunctor) : Prop where
  lo : (f.Objects.length : Int) = f.Source.Objects
  la : (f.Arrows.length : Int) = (f.Source.From.length : Int)
  ino : In f.Target.Objects f.Objects
  ina : In (f.Target.From.length : Int) f.Arrows
  afrom : ∀ a, 0 ≤ a → a < (f.Source.From.length : Int) → el f.Target.From (el f.Arrows a) = el f.Objects (el f.Source.From a)
  ato : ∀ a, 0 ≤ a → a < (f.Source.From.length : Int) → el f.Target.To (el f.Arrows a) = el f.Objects (el f.Source.To a)
  aid : ∀ x, 0 ≤ x → x < f.Source.Objects → el f.Arrows (el f.Source.Identity x) = el f.Target.Identity (el f.Objects x)
  acmp : ∀ a b, 0 ≤ a → a < (f.Source.From.length : Int) → 0 ≤ b → b < (f.Source.From.length : Int) → el f.Source.To a = el f.Source.From b →
    el f.Arrows (cmp f.Source a b) = cmp f.Target (el f.Arrows a) (el f.Arrows b)

def IsFun (f : XFunctor) : Prop := IsCat f.Source ∧ IsCat f.Target ∧ FunOk f

end Go.Gx

/- Plain laws: what is marked is held. -/
namespace Go.Gx
set_option maxHeartbeats 1000000

theorem fitsC {c : XCategory} (h : R.XCategory c) : FitsC c := ⟨h.2.1.1, h.2.2.1.1, h.2.2.2.1.1, h.2.2.2.2.1, fun r hr => (h.2.2.2.2.2 r hr).1⟩
def zeroF : XFunctor := ⟨⟨0, [], [], [], []⟩, ⟨0, [], [], [], []⟩, [], []⟩
theorem zeroC_small : SmallC ⟨0, [], [], [], []⟩ := ⟨by simp, by simp, by simp, by simp, by simp⟩
/-- A table of composites, asked only where two arrows meet. -/
theorem table_eq {c : XCategory} {g : Int → Int → Option Int} {v : Int → Int → Int} (hm : (c.From.length : Int) ≤ 40) (ht : (c.To.length : Int) = (c.From.length : Int))
    (hg : ∀ i j, 0 ≤ i → i < (c.From.length : Int) → 0 ≤ j → j < (c.From.length : Int) → el c.To i = el c.From j → g i j = some (v i j)) :
    M.impl_Category_table c g = some ⟨c.Objects, c.From, c.To, c.Identity, tab (c.From.length : Int) fun i => tab (c.From.length : Int) fun j => if el c.To i = el c.From j then v i j else -1⟩ := by
  apply Ret.eq
  unfold M.impl_Category_table M.impl_Category_arrows
  simp only [Option.bind_some]
  refine Ret.chk ⟨by omega, by unfold lim; omega⟩ ?_
  simp only [List.length_replicate]
  have e1 : (((c.From.length : Int).toNat : Nat) : Int) = (c.From.length : Int) := by omega
  simp only [e1]
  refine Ret.acc (c.From.length : Int) (fun i a => a = tab (c.From.length : Int) fun k => if k < i then (tab (c.From.length : Int) fun j => if el c.To k = el c.From j then v k j else -1) else []) (by omega) (by omega) ?_ ?_ ?_
  · rw [rep_tab]; apply tab_congr; intro j h0 h1; rw [if_neg (by omega)]
  · rintro i a next hi0 hi1 rfl hn1
    dsimp only
    simp only [decide_eq_true_eq]
    rw [if_pos hi1, set_tab hi0, rep_tab]
    refine Ret.idx hi0 (by rw [tab_length]; omega) ?_
    refine Ret.idx hi0 (by rw [tab_length]; omega) ?_
    rw [el_tab hi0 hi1]
    simp only [if_true, tab_length, e1]
    refine Ret.acc (c.From.length : Int) (fun j a => a = tab (c.From.length : Int) fun k => if k = i then (tab (c.From.length : Int) fun l => if l < j then (if el c.To k = el c.From l then v k l else -1) else 0) else if k < i then (tab (c.From.length : Int) fun j => if el c.To k = el c.From j then v k j else -1) else []) (by omega) (by omega) ?_ ?_ ?_
    · apply tab_congr
      intro k hk0 hk1
      by_cases hk : k = i
      · simp only [hk, if_true]
        apply tab_congr; intro l hl0 hl1; rw [if_neg (by omega)]
      · simp only [if_neg hk]
    · rintro j a next' hj0 hj1 rfl hn2
      dsimp only
      rw [if_pos hj1]
      refine Ret.idx hi0 (by rw [tab_length]; omega) ?_
      rw [el_tab hi0 hi1]
      simp only [if_true]
      refine Ret.idx hj0 (by rw [tab_length]; omega) ?_
      refine Ret.idx hi0 (by omega) (Ret.idx hj0 hj1 ?_)
      refine Ret.ite (fun hb => ?_) (fun hb => ?_)
      · have hb' : el c.To i = el c.From j := by simpa using hb
        simp only [set_tab hi0, set_tab hj0]
        refine Ret.idx hi0 (by rw [tab_length]; omega) ?_
        rw [el_tab hi0 hi1]
        simp only [if_true]
        refine Ret.call (hg i j hi0 hi1 hj0 hj1 hb') ?_
        refine Ret.idx hj0 (by rw [tab_length]; omega) (hn2 _ ?_)
        simp only [set_tab hj0]
        apply tab_congr
        intro k hk0 hk1
        by_cases hk : k = i
        · simp only [hk, if_true]
          apply tab_congr; intro l hl0 hl1
          by_cases hl : l = j
          · subst hl; rw [if_pos rfl, if_pos (show l < l + 1 by omega), if_pos hb']
          · simp only [if_neg hl]
            by_cases hlj : l < j
            · rw [if_pos hlj, if_pos (show l < j + 1 by omega)]
            · rw [if_neg hlj, if_neg (show ¬ l < j + 1 by omega)]
        · simp only [if_neg hk]
      · have hb' : ¬ el c.To i = el c.From j := by simpa using hb
        simp only [set_tab hi0, set_tab hj0]
        refine hn2 _ ?_
        apply tab_congr
        intro k hk0 hk1
        by_cases hk : k = i
        · simp only [hk, if_true]
          apply tab_congr; intro l hl0 hl1
          by_cases hl : l = j
          · subst hl; rw [if_pos rfl, if_pos (show l < l + 1 by omega), if_neg hb']
          · simp only [if_neg hl]
            by_cases hlj : l < j
            · rw [if_pos hlj, if_pos (show l < j + 1 by omega)]
            · rw [if_neg hlj, if_neg (show ¬ l < j + 1 by omega)]
        · simp only [if_neg hk]
    · rintro a next' rfl
      dsimp only
      rw [if_neg (by omega)]
      refine hn1 _ ?_
      apply tab_congr
      intro k hk0 hk1
      by_cases hk : k = i
      · subst hk
        simp only [if_true]
        rw [if_pos (by omega)]
        apply tab_congr; intro l hl0 hl1; rw [if_pos (by omega)]
      · simp only [if_neg hk]
        by_cases hlt : k < i
        · rw [if_pos hlt, if_pos (by omega)]
        · rw [if_neg hlt, if_neg (by omega)]
  · rintro a next rfl
    dsimp only
    simp only [decide_eq_true_eq]
    rw [if_neg (by omega)]
    refine Ret.some ?_
    congr 1
    apply tab_congr
    intro k hk0 hk1
    rw [if_pos hk1]

theorem mark_S {l : List Int} (h : Small l) {k : Int} (h0 : 0 ≤ k) (h1 : k ≤ 4611686018427387904) : M.laws_markInt64S l k = some (k + (l.length : Int), tab (l.length : Int) fun i => k + i) := by
  apply Ret.eq
  unfold M.laws_markInt64S
  refine Ret.loop (l.length : Int) (fun i s => s = (tab (l.length : Int) fun j => if j < i then k + j else el l j, k + i, i)) (by omega) (by omega) ?_ ?_ ?_
  · refine Prod.ext ?_ (Prod.ext ?_ rfl)
    · conv => lhs; rw [← tab_el l]
      dsimp only; apply tab_congr; intro j j0 j1; rw [if_neg (by omega)]
    · show k = k + 0
      omega
  · rintro i s next hi0 hi1 rfl hn
    dsimp only
    have e1 : (((l.length : Int).toNat : Nat) : Int) = (l.length : Int) := by omega
    simp only [decide_eq_true_eq, tab_length, e1]
    rw [if_pos hi1]
    refine Ret.idx hi0 (by rw [tab_length]; omega) (hn _ ?_)
    rw [set_tab hi0, wrap_in (by omega) (by omega), wrap_in (by omega) (by omega)]
    refine Prod.ext ?_ (Prod.ext ?_ rfl)
    · dsimp only; apply tab_congr; intro j j0 j1
      by_cases hj : j = i
      · subst hj; rw [if_pos rfl, if_pos (by omega)]
      · rw [if_neg hj]
        by_cases hlt : j < i
        · rw [if_pos hlt, if_pos (by omega)]
        · rw [if_neg hlt, if_neg (by omega)]
    · show k + i + 1 = k + (i + 1)
      omega
  · rintro s next rfl
    dsimp only
    have e1 : (((l.length : Int).toNat : Nat) : Int) = (l.length : Int) := by omega
    simp only [decide_eq_true_eq, tab_length, e1]
    rw [if_neg (by omega)]
    refine Ret.some (Prod.ext rfl ?_)
    dsimp only; apply tab_congr; intro j j0 j1; rw [if_pos j1]

theorem held_S {n k : Int} (hn : 0 ≤ n) (hn2 : n ≤ 1048576) (h0 : 0 ≤ k) (h1 : k ≤ 4611686018427387904) : M.laws_heldInt64S (tab n fun i => k + i) k = some (k + n) := by
  apply Ret.eq
  unfold M.laws_heldInt64S
  have e1 : ((n.toNat : Nat) : Int) = n := by omega
  refine Ret.loop n (fun i s => s = (k + i, i)) (by omega) (by omega) ?_ ?_ ?_
  · exact Prod.ext (show k = k + 0 by omega) rfl
  · rintro i s next hi0 hi1 rfl hnx
    dsimp only
    simp only [decide_eq_true_eq, tab_length, e1]
    rw [if_pos hi1]
    refine Ret.idx hi0 (by rw [tab_length]; omega) ?_
    rw [el_tab hi0 hi1]
    simp only [bne_self_eq_false, Bool.false_eq_true, if_false]
    refine hnx _ ?_
    rw [wrap_in (by omega) (by omega), wrap_in (by omega) (by omega)]
    exact Prod.ext (show k + i + 1 = k + (i + 1) by omega) rfl
  · rintro s next rfl
    dsimp only
    simp only [decide_eq_true_eq, tab_length, e1]
    rw [if_neg (by omega)]
    exact Ret.some rfl

/-- How much is marked before row i. -/
def offs (l : List (List Int)) (i : Int) : Int := ((l.take i.toNat).map fun r => (r.length : Int)).sum
theorem offs_succ {l : List (List Int)} {i : Int} (h0 : 0 ≤ i) (h1 : i < (l.length : Int)) : offs l (i + 1) = offs l i + ((el l i).length : Int) := by
  unfold offs
  rw [take_succ_el h0 h1, List.map_append, List.sum_append]
  simp
theorem sum_le : ∀ m : List (List Int), (∀ r ∈ m, Small r) → 0 ≤ (m.map fun r => (r.length : Int)).sum ∧ (m.map fun r => (r.length : Int)).sum ≤ (m.length : Int) * 1048576
  | [], _ => by simp
  | r :: m, h => by
    have h1 := sum_le m fun x hx => h x (by simp [hx])
    have h2 := h r (by simp)
    simp only [List.map_cons, List.sum_cons, List.length_cons]
    omega
theorem offs_le {l : List (List Int)} (hr : ∀ r ∈ l, Small r) {i : Int} (h0 : 0 ≤ i) : 0 ≤ offs l i ∧ offs l i ≤ i * 1048576 := by
  have h1 := sum_le (l.take i.toNat) fun r hx => hr r (List.mem_of_mem_take hx)
  unfold offs
  have h2 : ((l.take i.toNat).length : Int) ≤ i := by rw [List.length_take]; omega
  omega

theorem mark_SS {l : List (List Int)} (h : Small l) (hr : ∀ r ∈ l, Small r) {k : Int} (h0 : 0 ≤ k) (h1 : k ≤ 2305843009213693952) :
    M.laws_markInt64SS l k = some (k + offs l (l.length : Int), tab (l.length : Int) fun j => tab ((el l j).length : Int) fun t => k + offs l j + t) := by
  apply Ret.eq
  unfold M.laws_markInt64SS
  refine Ret.loop (l.length : Int) (fun i s => s = (tab (l.length : Int) fun j => if j < i then (tab ((el l j).length : Int) fun t => k + offs l j + t) else el l j, k + offs l i, i)) (by omega) (by omega) ?_ ?_ ?_
  · refine Prod.ext ?_ (Prod.ext ?_ rfl)
    · conv => lhs; rw [← tab_el l]
      dsimp only; apply tab_congr; intro j j0 j1; rw [if_neg (by omega)]
    · show k = k + 0
      omega
  · rintro i s next hi0 hi1 rfl hn
    dsimp only
    have e1 : (((l.length : Int).toNat : Nat) : Int) = (l.length : Int) := by omega
    simp only [decide_eq_true_eq, tab_length, e1]
    rw [if_pos hi1]
    refine Ret.idx hi0 (by rw [tab_length]; omega) ?_
    rw [el_tab hi0 hi1, if_neg (by omega)]
    have ho := offs_le hr hi0
    refine Ret.call (mark_S (hr _ (el_mem hi0 hi1)) (by omega) (by omega)) (hn _ ?_)
    rw [set_tab hi0, wrap_in (by omega) (by omega)]
    refine Prod.ext ?_ (Prod.ext ?_ rfl)
    · dsimp only; apply tab_congr; intro j j0 j1
      by_cases hj : j = i
      · subst hj; rw [if_pos rfl, if_pos (by omega)]
      · rw [if_neg hj]
        by_cases hlt : j < i
        · rw [if_pos hlt, if_pos (by omega)]
        · rw [if_neg hlt, if_neg (by omega)]
    · show k + offs l i + ((el l i).length : Int) = k + offs l (i + 1)
      rw [offs_succ hi0 hi1]; omega
  · rintro s next rfl
    dsimp only
    have e1 : (((l.length : Int).toNat : Nat) : Int) = (l.length : Int) := by omega
    simp only [decide_eq_true_eq, tab_length, e1]
    rw [if_neg (by omega)]
    refine Ret.some (Prod.ext rfl ?_)
    dsimp only; apply tab_congr; intro j j0 j1; rw [if_pos j1]

theorem held_SS {l : List (List Int)} (h : Small l) (hr : ∀ r ∈ l, Small r) {k : Int} (h0 : 0 ≤ k) (h1 : k ≤ 2305843009213693952) :
    M.laws_heldInt64SS (tab (l.length : Int) fun j => tab ((el l j).length : Int) fun t => k + offs l j + t) k = some (k + offs l (l.length : Int)) := by
  apply Ret.eq
  unfold M.laws_heldInt64SS
  have e1 : (((l.length : Int).toNat : Nat) : Int) = (l.length : Int) := by omega
  refine Ret.loop (l.length : Int) (fun i s => s = (k + offs l i, i)) (by omega) (by omega) ?_ ?_ ?_
  · exact Prod.ext (show k = k + 0 by omega) rfl
  · rintro i s next hi0 hi1 rfl hnx
    dsimp only
    simp only [decide_eq_true_eq, tab_length, e1]
    rw [if_pos hi1]
    refine Ret.idx hi0 (by rw [tab_length]; omega) ?_
    rw [el_tab hi0 hi1]
    have ho := offs_le hr hi0
    have hs := hr _ (el_mem hi0 hi1)
    refine Ret.call (held_S (by omega) (by omega) (by omega) (by omega)) ?_
    rw [if_neg (by omega)]
    refine hnx _ ?_
    rw [wrap_in (by omega) (by omega)]
    refine Prod.ext ?_ rfl
    show k + offs l i + ((el l i).length : Int) = k + offs l (i + 1)
    rw [offs_succ hi0 hi1]; omega
  · rintro s next rfl
    dsimp only
    simp only [decide_eq_true_eq, tab_length, e1]
    rw [if_neg (by omega)]
    exact Ret.some rfl

/-- What is marked from k on is held, and counts alike; at most N marks. -/
def MH {α : Type} (N : Int) (mark : α → Int → Option (Int × α)) (held : α → Int → Option Int) (keep : α → α → Prop) (x : α) : Prop :=
  ∀ k, 0 ≤ k → k + N ≤ 2305843009213693952 → ∃ n x', 0 ≤ n ∧ n ≤ N ∧ mark x k = some (k + n, x') ∧ held x' k = some (k + n) ∧ keep x x'

theorem mh_S {l : List Int} (h : Small l) : MH 1048576 M.laws_markInt64S M.laws_heldInt64S (fun _ _ => True) l := by
  intro k h0 h1
  exact ⟨_, _, by omega, h, mark_S h h0 (by omega), held_S (by omega) h h0 (by omega), trivial⟩

theorem mh_SS {l : List (List Int)} (h : Small l) (hr : ∀ r ∈ l, Small r) : MH 1099511627776 M.laws_markInt64SS M.laws_heldInt64SS (fun _ _ => True) l := by
  intro k h0 h1
  have ho := offs_le hr (i := (l.length : Int)) (by omega)
  exact ⟨_, _, ho.1, by omega, mark_SS h hr h0 (by omega), held_SS h hr h0 (by omega), trivial⟩

theorem mh_C {c : XCategory} (h : SmallC c) : MH 1099514773504 M.laws_markCategory M.laws_heldCategory (fun x y => y.Objects = x.Objects) c := by
  intro k h0 h1
  obtain ⟨n1, l1, a1, b1, e1, f1, _⟩ := mh_S h.s1 k h0 (by omega)
  obtain ⟨n2, l2, a2, b2, e2, f2, _⟩ := mh_S h.s2 (k + n1) (by omega) (by omega)
  obtain ⟨n3, l3, a3, b3, e3, f3, _⟩ := mh_S h.s3 (k + n1 + n2) (by omega) (by omega)
  obtain ⟨n4, l4, a4, b4, e4, f4, _⟩ := mh_SS h.s4 h.s5 (k + n1 + n2 + n3) (by omega) (by omega)
  refine ⟨n1 + n2 + n3 + n4, ⟨c.Objects, l1, l2, l3, l4⟩, by omega, by omega, ?_, ?_, rfl⟩
  · unfold M.laws_markCategory
    simp only [e1, e2, e3, e4, Option.bind_some, Option.some.injEq, Prod.mk.injEq, and_true]
    omega
  · unfold M.laws_heldCategory
    simp only [f1, f2, f3, f4, Option.bind_some, decide_eq_true_eq]
    rw [if_neg (by omega), if_neg (by omega), if_neg (by omega), if_neg (by omega)]
    simp only [Option.some.injEq]; omega

end Go.Gx

/- Plain laws: the first numbers, the identity functor. -/
namespace Go.Gx
open Classical
set_option maxHeartbeats 2000000

theorem numbers_eq {n : Int} (h0 : 0 ≤ n) (h1 : n ≤ 1048576) : M.impl_numbers n = some (tab n fun j => j) := by
  apply Ret.eq
  unfold M.impl_numbers
  refine Ret.chk ⟨h0, by unfold lim; omega⟩ ?_
  have e1 : ((n.toNat : Nat) : Int) = n := by omega
  simp only [List.length_replicate, e1, decide_eq_true_eq]
  refine Ret.acc n (fun i s => s = tab n fun j => if j < i then j else 0) h0 (by omega) ?_ ?_ ?_
  · rw [rep_tab]; apply tab_congr; intro j j0 j1; rw [if_neg (by omega)]
  · rintro i s next hi0 hi1 rfl hn1
    dsimp only
    rw [if_pos hi1]
    refine Ret.idx hi0 (by rw [tab_length]; omega) (hn1 _ ?_)
    rw [set_tab hi0]
    apply tab_congr; intro j j0 j1
    by_cases hj : j = i
    · subst hj; rw [if_pos rfl, if_pos (show j < j + 1 by omega)]
    · rw [if_neg hj]
      by_cases hlt : j < i
      · rw [if_pos hlt, if_pos (show j < i + 1 by omega)]
      · rw [if_neg hlt, if_neg (show ¬ j < i + 1 by omega)]
  · rintro s next rfl
    dsimp only
    rw [if_neg (by omega)]
    refine Ret.some ?_
    apply tab_congr; intro j j0 j1; rw [if_pos j1]

end Go.Gx

/- Plain laws: hom sets, profunctors of functors. -/
namespace Go.Gx
open Classical
set_option maxHeartbeats 2000000

/-! ### the profunctor of two functors with one target -/
structure Two (f g : XFunctor) : Prop where
  sf : Shp f.Source
  sg : Shp g.Source
  st : Shp f.Target
  lo : (f.Objects.length : Int) = f.Source.Objects
  la : (f.Arrows.length : Int) = (f.Source.From.length : Int)
  lo' : (g.Objects.length : Int) = g.Source.Objects
  la' : (g.Arrows.length : Int) = (g.Source.From.length : Int)
  ia : In (f.Target.From.length : Int) f.Arrows
  ia' : In (f.Target.From.length : Int) g.Arrows

theorem profunctor_eq {c d : XCategory} (sc : SmallC c) (sd : SmallC d) (hc : Shp c) (hd : Shp d) {u : Int → Int → Option Int} {v w : Int → Int → Option (List Int)} {U : Int → Int → Int} {V W : Int → Int → List Int}
    (hu : ∀ x y, 0 ≤ x → x < c.Objects → 0 ≤ y → y < d.Objects → u x y = some (U x y) ∧ U x y ≤ 64) (hv : ∀ a y, 0 ≤ a → a < (c.From.length : Int) → 0 ≤ y → y < d.Objects → v a y = some (V a y))
    (hw : ∀ b x, 0 ≤ b → b < (d.From.length : Int) → 0 ≤ x → x < c.Objects → w b x = some (W b x)) :
    M.impl_profunctor c d u v w = some (⟨c, d, tab c.Objects fun x => tab d.Objects fun y => U x y, tab (c.From.length : Int) fun a => tab d.Objects fun y => V a y, tab (d.From.length : Int) fun b => tab c.Objects fun x => W b x⟩, true) := by
  apply Ret.eq
  have c0 := hc.n0
  have c8 := hc.n8
  have d0 := hd.n0
  have d8 := hd.n8
  have cm := hc.m40
  have dm := hd.m40
  unfold M.impl_profunctor
  refine Ret.call (copy_eq sc) (Ret.call (copy_eq sd) ?_)
  refine Ret.acc c.Objects (fun i s => s = tab i fun x => tab d.Objects fun y => U x y) c0 (by omega) rfl ?_ ?_
  · rintro x s next x0 x1 rfl hn1
    dsimp only
    simp only [decide_eq_true_eq]
    rw [if_pos x1]
    refine Ret.chk ⟨d0, by unfold lim; omega⟩ ?_
    refine Ret.acc d.Objects (fun j s => s = tab j fun y => U x y) d0 (by omega) rfl ?_ ?_
    · rintro y s next y0 y1 rfl hn2
      dsimp only
      rw [if_pos y1]
      have hl : ((tab y fun y => U x y).length : Int) = y := by rw [tab_length]; omega
      obtain ⟨e1, e2⟩ := hu x y x0 x1 y0 y1
      have hs := (tab_succ (fun y => U x y) y0).symm
      refine Ret.chk (by omega) (Ret.call e1 (Ret.chk (by unfold lim; simp only [List.length_cons, List.length_nil]; omega) ?_))
      rw [show ((tab y fun y => U x y) ++ ([U x y] : List Int)) = tab (y + 1) fun y => U x y from hs]
      refine Ret.idx y0 (by rw [tab_length]; omega) ?_
      rw [el_tab y0 (by omega), if_neg (by omega)]
      exact hn2 _ rfl
    · rintro s next rfl
      dsimp only
      rw [if_neg (by omega)]
      refine Ret.chk ?_ (hn1 _ (tab_succ (fun x => tab d.Objects fun y => U x y) x0).symm)
      rw [tab_length]; unfold lim; omega
  · rintro s next rfl
    dsimp only
    simp only [decide_eq_true_eq]
    rw [if_neg (by omega)]
    refine Ret.acc (c.From.length : Int) (fun i s => s = tab i fun a => tab d.Objects fun y => V a y) (by omega) (by omega) rfl ?_ ?_
    · rintro a s next a0 a1 rfl hn1
      dsimp only
      rw [if_pos a1]
      refine Ret.acc d.Objects (fun j s => s = tab j fun y => V a y) d0 (by omega) rfl ?_ ?_
      · rintro y s next y0 y1 rfl hn2
        dsimp only
        rw [if_pos y1]
        refine Ret.call (hv a y a0 a1 y0 y1) (Ret.chk ?_ (hn2 _ (tab_succ (fun y => V a y) y0).symm))
        rw [tab_length]; unfold lim; omega
      · rintro s next rfl
        dsimp only
        rw [if_neg (by omega)]
        refine Ret.chk ?_ (hn1 _ (tab_succ (fun a => tab d.Objects fun y => V a y) a0).symm)
        rw [tab_length]; unfold lim; omega
    · rintro s next rfl
      dsimp only
      rw [if_neg (by omega)]
      refine Ret.acc (d.From.length : Int) (fun i s => s = tab i fun b => tab c.Objects fun x => W b x) (by omega) (by omega) rfl ?_ ?_
      · rintro b s next b0 b1 rfl hn1
        dsimp only
        rw [if_pos b1]
        refine Ret.acc c.Objects (fun j s => s = tab j fun x => W b x) c0 (by omega) rfl ?_ ?_
        · rintro x s next y0 y1 rfl hn2
          dsimp only
          rw [if_pos y1]
          refine Ret.call (hw b x b0 b1 y0 y1) (Ret.chk ?_ (hn2 _ (tab_succ (fun x => W b x) y0).symm))
          rw [tab_length]; unfold lim; omega
        · rintro s next rfl
          dsimp only
          rw [if_neg (by omega)]
          refine Ret.chk ?_ (hn1 _ (tab_succ (fun b => tab c.Objects fun x => W b x) b0).symm)
          rw [tab_length]; unfold lim; omega
      · rintro s next rfl
        dsimp only
        rw [if_neg (by omega)]
        exact Ret.some rfl

end Go.Gx

/- The law of HomProfunctor. -/
namespace Go.Gx
open Classical
set_option maxHeartbeats 1000000

/-! ### marks on lists of lists of lists -/
def rS (x : List (List Int)) (k : Int) : Int × List (List Int) := (M.laws_markInt64SS x k).getD (0, [])
def ksN (l : List (List (List Int))) (k : Int) : Nat → Int
  | 0 => k
  | i + 1 => (rS (el l (i : Int)) (ksN l k i)).1
def ks (l : List (List (List Int))) (k i : Int) : Int := ksN l k i.toNat
theorem ks_succ {l : List (List (List Int))} {k i : Int} (h : 0 ≤ i) : ks l k (i + 1) = (rS (el l i) (ks l k i)).1 := by
  unfold ks
  rw [show (i + 1).toNat = i.toNat + 1 by omega]
  show (rS (el l (i.toNat : Int)) _).1 = _
  rw [Int.toNat_of_nonneg h]

def SmallR (r : List (List Int)) : Prop := Small r ∧ ∀ q ∈ r, Small q

theorem rS_spec {x : List (List Int)} (h : SmallR x) {k : Int} (h0 : 0 ≤ k) (h1 : k + 1099511627776 ≤ 2305843009213693952) :
    M.laws_markInt64SS x k = some (rS x k) ∧ M.laws_heldInt64SS (rS x k).2 k = some (rS x k).1 ∧ k ≤ (rS x k).1 ∧ (rS x k).1 ≤ k + 1099511627776 := by
  obtain ⟨n, x', a, b, e, f, _⟩ := mh_SS h.1 h.2 k h0 h1
  have er : rS x k = (k + n, x') := by unfold rS; rw [e]; rfl
  rw [er]
  exact ⟨e, f, by dsimp only; omega, by dsimp only; omega⟩

theorem ks_le {l : List (List (List Int))} (hr : ∀ r ∈ l, SmallR r) (hl : (l.length : Int) ≤ 1024) {k : Int} (h0 : 0 ≤ k) (h1 : k + 1125899906842624 ≤ 2305843009213693952) :
    ∀ i : Nat, (i : Int) ≤ (l.length : Int) → k ≤ ks l k (i : Int) ∧ ks l k (i : Int) ≤ k + (i : Int) * 1099511627776
  | 0, _ => by
    have : ks l k ((0 : Nat) : Int) = k := rfl
    rw [this]; omega
  | i + 1, hi => by
    have h2 := ks_le hr hl h0 h1 i (by omega)
    have h3 := rS_spec (hr _ (el_mem (l := l) (i := (i : Int)) (by omega) (by omega))) (k := ks l k (i : Int)) (by omega) (by omega)
    rw [show ((i + 1 : Nat) : Int) = (i : Int) + 1 by omega, ks_succ (by omega)]
    omega
theorem ks_le' {l : List (List (List Int))} (hr : ∀ r ∈ l, SmallR r) (hl : (l.length : Int) ≤ 1024) {k : Int} (h0 : 0 ≤ k) (h1 : k + 1125899906842624 ≤ 2305843009213693952) {i : Int} (i0 : 0 ≤ i) (i1 : i ≤ (l.length : Int)) :
    k ≤ ks l k i ∧ ks l k i ≤ k + i * 1099511627776 := by
  have := ks_le hr hl h0 h1 i.toNat (by omega)
  rwa [Int.toNat_of_nonneg i0] at this

theorem mh_SSS {l : List (List (List Int))} (hl : (l.length : Int) ≤ 1024) (hr : ∀ r ∈ l, SmallR r) : MH 1125899906842624 M.laws_markInt64SSS M.laws_heldInt64SSS (fun _ _ => True) l := by
  intro k h0 h1
  have hb := ks_le' hr hl h0 h1 (i := (l.length : Int)) (by omega) (by omega)
  have e1 : (((l.length : Int).toNat : Nat) : Int) = (l.length : Int) := by omega
  refine ⟨ks l k (l.length : Int) - k, tab (l.length : Int) fun j => (rS (el l j) (ks l k j)).2, by omega, by omega, ?_, ?_, trivial⟩
  · rw [show k + (ks l k (l.length : Int) - k) = ks l k (l.length : Int) by omega]
    apply Ret.eq
    unfold M.laws_markInt64SSS
    refine Ret.loop (l.length : Int) (fun i s => s = (tab (l.length : Int) fun j => if j < i then (rS (el l j) (ks l k j)).2 else el l j, ks l k i, i)) (by omega) (by omega) ?_ ?_ ?_
    · refine Prod.ext ?_ rfl
      conv => lhs; rw [← tab_el l]
      dsimp only; apply tab_congr; intro j j0 j1; rw [if_neg (by omega)]
    · rintro i s next i0 i1 rfl hn
      dsimp only
      simp only [decide_eq_true_eq, tab_length, e1]
      rw [if_pos i1]
      have hk := ks_le' hr hl h0 h1 i0 (by omega)
      obtain ⟨q1, q2, q3, q4⟩ := rS_spec (hr _ (el_mem i0 i1)) (k := ks l k i) (by omega) (by omega)
      refine Ret.idx i0 (by rw [tab_length]; omega) ?_
      rw [el_tab i0 i1, if_neg (by omega)]
      refine Ret.call q1 (hn _ ?_)
      rw [set_tab i0, wrap_in (by omega) (by omega), ← ks_succ i0]
      refine Prod.ext ?_ rfl
      dsimp only; apply tab_congr; intro j j0 j1
      by_cases hj : j = i
      · subst hj; rw [if_pos rfl, if_pos (show j < j + 1 by omega)]
      · rw [if_neg hj]
        by_cases hlt : j < i
        · rw [if_pos hlt, if_pos (show j < i + 1 by omega)]
        · rw [if_neg hlt, if_neg (show ¬ j < i + 1 by omega)]
    · rintro s next rfl
      dsimp only
      simp only [decide_eq_true_eq, tab_length, e1]
      rw [if_neg (by omega)]
      refine Ret.some (Prod.ext rfl ?_)
      dsimp only; apply tab_congr; intro j j0 j1; rw [if_pos j1]
  · rw [show k + (ks l k (l.length : Int) - k) = ks l k (l.length : Int) by omega]
    apply Ret.eq
    unfold M.laws_heldInt64SSS
    refine Ret.loop (l.length : Int) (fun i s => s = (ks l k i, i)) (by omega) (by omega) rfl ?_ ?_
    · rintro i s next i0 i1 rfl hn
      dsimp only
      simp only [decide_eq_true_eq, tab_length, e1]
      rw [if_pos i1]
      have hk := ks_le' hr hl h0 h1 i0 (by omega)
      obtain ⟨q1, q2, q3, q4⟩ := rS_spec (hr _ (el_mem i0 i1)) (k := ks l k i) (by omega) (by omega)
      refine Ret.idx i0 (by rw [tab_length]; omega) ?_
      rw [el_tab i0 i1]
      refine Ret.call q2 ?_
      rw [if_neg (by omega)]
      refine hn _ ?_
      rw [wrap_in (by omega) (by omega), ← ks_succ i0]
    · rintro s next rfl
      dsimp only
      simp only [decide_eq_true_eq, tab_length, e1]
      rw [if_neg (by omega)]
      exact Ret.some rfl

theorem eqInt64SSS_refl {l : List (List (List Int))} (h : Small l) (hr : ∀ r ∈ l, SmallR r) : M.laws_eqInt64SSS l l = some true := by
  apply Ret.eq
  unfold M.laws_eqInt64SSS
  simp only [bne_self_eq_false, Bool.false_eq_true, if_false, decide_eq_true_eq]
  refine Ret.all (l.length : Int) (fun _ => True) (by omega) (by omega) ?_ ?_
  · intro i next hi0 hi1 hp hn1
    have hx := hr _ (el_mem hi0 hi1)
    rw [if_pos hi1]
    exact Ret.idx hi0 hi1 (Ret.idx hi0 hi1 (Ret.call (eqInt64SS_refl hx.1 hx.2) (hn1 trivial)))
  · intro next hp
    rw [if_neg (by omega)]
    exact Ret.some rfl

structure SmallP (p : XProfunctor) : Prop where
  s1 : SmallC p.Source
  s2 : SmallC p.Target
  s3 : SmallR p.Sizes
  l4 : (p.Before.length : Int) ≤ 1024
  s4 : ∀ r ∈ p.Before, SmallR r
  l5 : (p.Behind.length : Int) ≤ 1024
  s5 : ∀ r ∈ p.Behind, SmallR r

theorem eqProfunctor_refl {p : XProfunctor} (h : SmallP p) : M.laws_eqProfunctor p p = some true := by
  have l4 := h.l4
  have l5 := h.l5
  unfold M.laws_eqProfunctor
  rw [eqCategory_refl h.s1, eqCategory_refl h.s2, eqInt64SS_refl h.s3.1 h.s3.2, eqInt64SSS_refl (by unfold Small; omega) h.s4, eqInt64SSS_refl (by unfold Small; omega) h.s5]; simp

theorem mh_P {p : XProfunctor} (h : SmallP p) : MH 2255098354860032 M.laws_markProfunctor M.laws_heldProfunctor (fun _ _ => True) p := by
  intro k h0 h1
  obtain ⟨n1, l1, a1, b1, e1, f1, g1⟩ := mh_C h.s1 k h0 (by omega)
  obtain ⟨n2, l2, a2, b2, e2, f2, g2⟩ := mh_C h.s2 (k + n1) (by omega) (by omega)
  obtain ⟨n3, l3, a3, b3, e3, f3, _⟩ := mh_SS h.s3.1 h.s3.2 (k + n1 + n2) (by omega) (by omega)
  obtain ⟨n4, l4, a4, b4, e4, f4, _⟩ := mh_SSS h.l4 h.s4 (k + n1 + n2 + n3) (by omega) (by omega)
  obtain ⟨n5, l5, a5, b5, e5, f5, _⟩ := mh_SSS h.l5 h.s5 (k + n1 + n2 + n3 + n4) (by omega) (by omega)
  refine ⟨n1 + n2 + n3 + n4 + n5, ⟨l1, l2, l3, l4, l5⟩, by omega, by omega, ?_, ?_, trivial⟩
  · unfold M.laws_markProfunctor
    simp only [e1, e2, e3, e4, e5, Option.bind_some, Option.some.injEq, Prod.mk.injEq]
    refine ⟨by omega, ?_⟩
    rw [← g1, ← g2]
  · unfold M.laws_heldProfunctor
    simp only [f1, f2, f3, f4, f5, Option.bind_some, decide_eq_true_eq]
    rw [if_neg (by omega), if_neg (by omega), if_neg (by omega), if_neg (by omega), if_neg (by omega)]
    simp only [Option.some.injEq]; omega

/-! ### the identity -/
def zeroP : XProfunctor := ⟨⟨0, [], [], [], []⟩, ⟨0, [], [], [], []⟩, [], [], []⟩
theorem zeroP_small : SmallP zeroP := ⟨zeroC_small, zeroC_small, ⟨by simp [zeroP], by simp [zeroP]⟩, by simp [zeroP], by simp [zeroP], by simp [zeroP], by simp [zeroP]⟩

end Go.Gx

/- Plain laws: lists after each other; transformations: copies, marks. -/
namespace Go.Gx
open Classical
set_option maxHeartbeats 1000000

def thenL (a b : List Int) : List Int := tab (a.length : Int) fun i => el b (el a i)

theorem l01Then_eq {a b : List Int} (h : Small a) (hi : In (b.length : Int) a) : M.spec_l01Then a b = some (thenL a b) := by
  apply Ret.eq
  unfold M.spec_l01Then
  refine Ret.acc (a.length : Int) (fun i s => s = tab i fun i => el b (el a i)) (by omega) (by omega) rfl ?_ ?_
  · rintro i s next hi0 hi1 rfl hn1
    dsimp only
    simp only [decide_eq_true_eq]
    rw [if_pos hi1]
    have hx := hi i hi0 hi1
    refine Ret.idx hi0 hi1 (Ret.idx hx.1 hx.2 (Ret.chk ?_ (hn1 _ (tab_succ (fun i => el b (el a i)) hi0).symm)))
    rw [tab_length]; unfold lim; simp only [List.length_cons, List.length_nil]; omega
  · rintro s next rfl
    dsimp only
    simp only [decide_eq_true_eq]
    rw [if_neg (by omega)]
    exact Ret.some rfl

theorem then2_eq {a b : List Int} (h : Small a) (hi : In (b.length : Int) a) : M.impl_then a b = some (thenL a b) := by
  apply Ret.eq
  unfold M.impl_then
  refine Ret.chk ⟨by omega, by unfold lim; omega⟩ ?_
  refine Ret.acc (a.length : Int) (fun i s => s = tab (a.length : Int) fun j => if j < i then el b (el a j) else 0) (by omega) (by omega) ?_ ?_ ?_
  · rw [rep_tab]; apply tab_congr; intro j h0 h1; rw [if_neg (by omega)]
  · rintro i s next hi0 hi1 rfl hn1
    dsimp only
    simp only [decide_eq_true_eq]
    rw [if_pos hi1]
    have hx := hi i hi0 hi1
    refine Ret.idx hi0 hi1 (Ret.idx hx.1 hx.2 (Ret.idx hi0 (by rw [tab_length]; omega) (hn1 _ ?_)))
    rw [set_tab hi0]
    apply tab_congr; intro j j0 j1
    by_cases hj : j = i
    · subst hj; rw [if_pos rfl, if_pos (by omega)]
    · rw [if_neg hj]
      by_cases hlt : j < i
      · rw [if_pos hlt, if_pos (by omega)]
      · rw [if_neg hlt, if_neg (by omega)]
  · rintro s next rfl
    dsimp only
    simp only [decide_eq_true_eq]
    rw [if_neg (by omega)]
    refine Ret.some ?_
    unfold thenL
    apply tab_congr; intro j j0 j1; rw [if_pos j1]

structure SmallT (t : XTransformation) : Prop where
  s1 : SmallF t.Source
  s2 : SmallF t.Target
  s3 : Small t.Components

def zeroT : XTransformation := ⟨zeroF, zeroF, []⟩
end Go.Gx

/- Plain laws: sameness; natural transformations; functors after each other. -/
namespace Go.Gx
open Classical
set_option maxHeartbeats 4000000

instance : Inhabited XFunctor := ⟨zeroF⟩
instance : Inhabited XTransformation := ⟨zeroT⟩

/-! ### sizes -/
structure FitsT (t : XTransformation) : Prop where
  f1 : FitsF t.Source
  f2 : FitsF t.Target
  f3 : Fits t.Components
/-! ### the same -/
def Par (f g : XFunctor) : Prop := f.Source = g.Source ∧ f.Target = g.Target

/-! ### lists of functors -/
/-! ### natural transformations -/
def Ends (f g : XFunctor) (c : List Int) : Prop :=
  (c.length : Int) = f.Source.Objects ∧ In (f.Target.From.length : Int) c ∧ ∀ i, 0 ≤ i → i < (c.length : Int) → el f.Target.From (el c i) = el f.Objects i ∧ el f.Target.To (el c i) = el g.Objects i

def ShapeT (t : XTransformation) : Prop := IsFun t.Source ∧ IsFun t.Target ∧ Par t.Source t.Target ∧ Ends t.Source t.Target t.Components

/-- What the indices of a square need. -/
theorem ShapeT.facts {t : XTransformation} (h : ShapeT t) {a : Int} (h0 : 0 ≤ a) (h1 : a < (t.Source.Arrows.length : Int)) :
    a < (t.Source.Source.From.length : Int) ∧ a < (t.Source.Source.To.length : Int) ∧ a < (t.Target.Arrows.length : Int) ∧
    (0 ≤ el t.Source.Arrows a ∧ el t.Source.Arrows a < (t.Source.Target.From.length : Int)) ∧
    (0 ≤ el t.Target.Arrows a ∧ el t.Target.Arrows a < (t.Source.Target.From.length : Int)) ∧
    (0 ≤ el t.Source.Source.To a ∧ el t.Source.Source.To a < (t.Components.length : Int)) ∧
    (0 ≤ el t.Source.Source.From a ∧ el t.Source.Source.From a < (t.Components.length : Int)) ∧
    (0 ≤ el t.Components (el t.Source.Source.To a) ∧ el t.Components (el t.Source.Source.To a) < (t.Source.Target.From.length : Int)) ∧
    (0 ≤ el t.Components (el t.Source.Source.From a) ∧ el t.Components (el t.Source.Source.From a) < (t.Source.Target.From.length : Int)) := by
  obtain ⟨hS, hT, hp, hc⟩ := h
  have k1 := hS.1.1.shp
  have l1 := k1.lto
  have l2 := hS.2.2.la
  have l3 := hT.2.2.la
  have l4 := hT.2.2.ina a h0
  have l5 := hS.2.2.ina a h0 h1
  have p1 : t.Source.Source = t.Target.Source := hp.1
  have p2 : t.Source.Target = t.Target.Target := hp.2
  rw [← p1] at l3
  rw [← p2] at l4
  have m1 := k1.to_in a h0 (by omega)
  have m2 := k1.from_in a h0 (by omega)
  have l6 := hc.1
  have n1 := hc.2.1 (el t.Source.Source.To a) m1.1 (by omega)
  have n2 := hc.2.1 (el t.Source.Source.From a) m2.1 (by omega)
  exact ⟨by omega, by omega, by omega, l5, l4 (by omega), ⟨m1.1, by omega⟩, ⟨m2.1, by omega⟩, n1, n2⟩

/-! ### functors after each other -/
/-- f ends where g begins. -/
structure Meet (f g : XFunctor) : Prop where
  o : In (g.Objects.length : Int) f.Objects
  a : In (g.Arrows.length : Int) f.Arrows

end Go.Gx

/- Plain laws: two functors. -/
namespace Go.Gx
open Classical
set_option maxHeartbeats 1000000

/-- Small lists of small lists. -/
def SmallX (l : List (List Int)) : Prop := Small l ∧ ∀ r ∈ l, Small r
theorem SmallX.nil : SmallX [] := ⟨by simp, by simp⟩
end Go.Gx

/- Plain laws: products of categories. -/
namespace Go.Gx
open Classical
set_option maxHeartbeats 2000000

theorem mulb {i j n m : Int} (i0 : 0 ≤ i) (h : i < n) (h0 : 0 ≤ j) (h1 : j < m) : 0 ≤ i * m ∧ i * m + j < n * m ∧ i * m + m ≤ n * m := by
  have e1 : (i + 1) * m ≤ n * m := Int.mul_le_mul_of_nonneg_right (by omega) (by omega)
  rw [Int.add_mul, Int.one_mul] at e1
  have e2 := Int.mul_nonneg i0 (show 0 ≤ m by omega)
  omega
theorem mulB {n m N M : Int} (h0 : 0 ≤ n) (h1 : n ≤ N) (h2 : 0 ≤ m) (h3 : m ≤ M) : 0 ≤ n * m ∧ n * m ≤ N * M :=
  ⟨Int.mul_nonneg h0 h2, Int.mul_le_mul h1 h3 h2 (by omega)⟩
theorem wrap2 {x y : Int} (h0 : 0 ≤ x) (h1 : 0 ≤ y) (h2 : x + y ≤ 4611686018427387904) : IntKind.i64.wrap (IntKind.i64.wrap x + y) = x + y := by
  rw [wrap_in (x := x) (by omega) (by omega), wrap_in (by omega) (by omega)]
theorem parts {k n m : Int} (h0 : 0 ≤ k) (h1 : k < n * m) (hm : 0 ≤ m) : 0 < m ∧ 0 ≤ k / m ∧ k / m < n ∧ 0 ≤ k % m ∧ k % m < m := by
  have hm : 0 < m := by
    rcases Int.lt_or_eq_of_le hm with h | h
    · exact h
    · rw [← h, Int.mul_zero] at h1; omega
  exact ⟨hm, Int.ediv_nonneg h0 (by omega), Int.ediv_lt_of_lt_mul hm h1, Int.emod_nonneg _ (by omega), Int.emod_lt_of_pos _ hm⟩
/-- Two numbers as one, over all pairs. -/
abbrev tab2 {α : Type} (n m : Int) (f : Int → Int → α) : List α := tab (n * m) fun k => f (k / m) (k % m)
theorem tab_len' (n : Int) {α : Type} (f : Int → α) (h : 0 ≤ n) : ((tab n f).length : Int) = n := by rw [tab_length]; omega

end Go.Gx

/- Plain laws: the product as impl makes it; projections. -/
namespace Go.Gx
open Classical
set_option maxHeartbeats 2000000

theorem tdiv_nn {x m : Int} (h : 0 ≤ x) : x.tdiv m = x / m := Int.tdiv_eq_ediv_of_nonneg h
theorem tmod_nn {x m : Int} (h : 0 ≤ x) : x.tmod m = x % m := Int.tmod_eq_emod_of_nonneg h

end Go.Gx

/- Plain laws: pairs of lists; products of functors. -/
namespace Go.Gx
open Classical
set_option maxHeartbeats 1000000

abbrev pairF (a b : List Int) (n : Int) (i j : Int) : Int := el a i * n + el b j
def pairL (a b : List Int) (n : Int) : List Int := tab2 (a.length : Int) (b.length : Int) (pairF a b n)
/-- Codes of pairs are small numbers. -/
structure PairOk (a b : List Int) (n A : Int) : Prop where
  hA : A ≤ 40
  hn : n ≤ 40
  la : (a.length : Int) ≤ 40
  lb : (b.length : Int) ≤ 40
  ia : In A a
  ib : In n b

theorem PairOk.len {a b : List Int} {n A : Int} (h : PairOk a b n A) {i j : Int} (i0 : 0 ≤ i) (i1 : i < (a.length : Int)) (j0 : 0 ≤ j) (j1 : j < (b.length : Int)) (F : Int → Int) :
    ((tab (i * (b.length : Int) + j) F).length : Int) ≤ 1600 := by
  have hb1 := mulb i0 i1 j0 j1
  have hB := mulB (n := (a.length : Int)) (m := (b.length : Int)) (N := 40) (M := 40) (by omega) h.la (by omega) h.lb
  rw [tab_len' _ _ (by omega)]; omega
theorem PairOk.small {a b : List Int} {n A : Int} (h : PairOk a b n A) : Small (pairL a b n) := by
  have hB := mulB (n := (a.length : Int)) (m := (b.length : Int)) (N := 40) (M := 40) (by omega) h.la (by omega) h.lb
  unfold Small pairL; rw [tab_len' _ _ hB.1]; omega

/-- A loop that pushes F 0, F 1, .. -/
theorem push_loop {α ρ : Type} {n : Int} (h0 : 0 ≤ n) (hf : n < 4294967296) {F : Int → α} {step : List α × Int → (List α × Int → Option ρ) → Option ρ} {Q : ρ → Prop}
    (hgo : ∀ (i : Int) next, 0 ≤ i → i < n → ((tab i F).length : Int) = i → Ret (next (tab i F ++ [F i], IntKind.i64.wrap (i + 1))) Q → Ret (step (tab i F, i) next) Q)
    (hend : ∀ next, Ret (step (tab n F, n) next) Q) : Ret (iter step fuel (([] : List α), 0)) Q := by
  refine Ret.acc n (fun i s => s = tab i F) h0 hf rfl ?_ ?_
  · rintro i s next i0 i1 rfl hn
    exact hgo i next i0 i1 (tab_len' _ _ i0) (hn _ (tab_succ F i0).symm)
  · rintro s next rfl
    exact hend next

end Go.Gx
