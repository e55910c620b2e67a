/- Laid together: part 0. -/
import Derived.Test.YthafadgnjkmfkaaGxE2
import Derived.Test.YthafadgnjkmfkaaGxEM0
/- Plain laws of categories and functors: what the models of spec and impl answer. -/
namespace Go.Gx

instance : Inhabited XCategory := ⟨⟨0, [], [], [], []⟩⟩

abbrev Small {α : Type} (l : List α) : Prop := (l.length : Int) ≤ 1048576
abbrev Fits {α : Type} (l : List α) : Prop := (l.length : Int) ≤ 9223372036854775807

structure FitsC (c : XCategory) : Prop where
  f1 : Fits c.From
  f2 : Fits c.To
  f3 : Fits c.Identity
  f4 : Fits c.Composites
  f5 : ∀ r ∈ c.Composites, Fits r

structure SmallC (c : XCategory) : Prop where
  s1 : Small c.From
  s2 : Small c.To
  s3 : Small c.Identity
  s4 : Small c.Composites
  s5 : ∀ r ∈ c.Composites, Small r

structure FitsF (f : XFunctor) : Prop where
  f1 : FitsC f.Source
  f2 : FitsC f.Target
  f3 : Fits f.Objects
  f4 : Fits f.Arrows

structure SmallF (f : XFunctor) : Prop where
  s1 : SmallC f.Source
  s2 : SmallC f.Target
  s3 : Small f.Objects
  s4 : Small f.Arrows

/-! ### sizes -/

theorem szInt64S_r {l : List Int} {n : Int} (h0 : 0 ≤ n) (h1 : n ≤ 1048576) (hl : Fits l) :
    Ret (M.laws_szInt64S l n) fun r => (r < 0 ∧ r = -1) ∨ (0 ≤ r ∧ r ≤ n ∧ Small l) := by
  unfold M.laws_szInt64S
  rw [wrap_in (by omega) (by omega)]
  simp only [decide_eq_true_eq]
  (repeat' (first | with_reducible refine Ret.pos ‹_› ?_ | with_reducible refine Ret.neg ‹_› ?_ | with_reducible refine Ret.neg (Int.lt_irrefl _) ?_ | with_reducible refine Ret.ite (fun _ => ?_) (fun _ => ?_) | with_reducible refine Ret.idx ?_ ?_ ?_ | with_reducible refine Ret.chk ?_ ?_ | with_reducible refine hn3 ?_ | with_reducible refine hn2 ?_ | with_reducible refine hn1 ?_ | with_reducible refine hn3 _ ?_ | with_reducible refine hn2 _ ?_ | with_reducible refine hn1 _ ?_ | with_reducible refine Ret.some ?_))
  all_goals (try ((fail_if_success (with_reducible refine Ret.probe ?_)); grind))

theorem szInt64SS_r {l : List (List Int)} {n : Int} (h0 : 0 ≤ n) (h1 : n ≤ 1048576) (hl : Fits l) (hr : ∀ r ∈ l, Fits r) :
    Ret (M.laws_szInt64SS l n) fun r => (r < 0 ∧ r = -1) ∨ (0 ≤ r ∧ r ≤ n ∧ Small l ∧ ∀ x ∈ l, Small x) := by
  unfold M.laws_szInt64SS
  rw [wrap_in (by omega) (by omega)]
  simp only [decide_eq_true_eq]
  (repeat' (first | with_reducible refine Ret.pos ‹_› ?_ | with_reducible refine Ret.neg ‹_› ?_ | with_reducible refine Ret.neg (Int.lt_irrefl _) ?_ | with_reducible refine Ret.ite (fun _ => ?_) (fun _ => ?_) | with_reducible refine Ret.idx ?_ ?_ ?_ | with_reducible refine Ret.chk ?_ ?_ | with_reducible refine hn3 ?_ | with_reducible refine hn2 ?_ | with_reducible refine hn1 ?_ | with_reducible refine hn3 _ ?_ | with_reducible refine hn2 _ ?_ | with_reducible refine hn1 _ ?_ | with_reducible refine Ret.some ?_))
  all_goals (try ((fail_if_success (with_reducible refine Ret.probe ?_)); grind))
  refine Ret.acc (l.length : Int) (fun i a => 0 ≤ a ∧ a ≤ n ∧ ∀ j, 0 ≤ j → j < i → Small (el l j)) (by omega) (by omega) ⟨by omega, by omega, fun j h0 h1 => by omega⟩ ?_ ?_
  · intro i a next hi0 hi1 hp hn1
    dsimp only
    have := hr _ (el_mem hi0 hi1)
    (repeat' (first | with_reducible refine Ret.pos ‹_› ?_ | with_reducible refine Ret.neg ‹_› ?_ | with_reducible refine Ret.neg (Int.lt_irrefl _) ?_ | with_reducible refine Ret.ite (fun _ => ?_) (fun _ => ?_) | with_reducible refine Ret.idx ?_ ?_ ?_ | with_reducible refine Ret.chk ?_ ?_ | with_reducible refine hn3 ?_ | with_reducible refine hn2 ?_ | with_reducible refine hn1 ?_ | with_reducible refine hn3 _ ?_ | with_reducible refine hn2 _ ?_ | with_reducible refine hn1 _ ?_ | with_reducible refine Ret.bind (szInt64S_r ?_ ?_ ?_) fun v hv => ?_ | with_reducible refine Ret.some ?_))
    all_goals (try ((fail_if_success (with_reducible refine Ret.probe ?_)); grind))
  · intro a next hp
    dsimp only
    (repeat' (first | with_reducible refine Ret.pos ‹_› ?_ | with_reducible refine Ret.neg ‹_› ?_ | with_reducible refine Ret.neg (Int.lt_irrefl _) ?_ | with_reducible refine Ret.ite (fun _ => ?_) (fun _ => ?_) | with_reducible refine Ret.idx ?_ ?_ ?_ | with_reducible refine Ret.chk ?_ ?_ | with_reducible refine hn3 ?_ | with_reducible refine hn2 ?_ | with_reducible refine hn1 ?_ | with_reducible refine hn3 _ ?_ | with_reducible refine hn2 _ ?_ | with_reducible refine hn1 _ ?_ | with_reducible refine Ret.some ?_))
    refine Or.inr ⟨hp.1, hp.2.1, by omega, fun x hx => ?_⟩
    obtain ⟨i, h0, h1, rfl⟩ := mem_el hx
    exact hp.2.2 i h0 h1

theorem szCategory_r {c : XCategory} {n : Int} (h0 : 0 ≤ n) (h1 : n ≤ 1048576) (h : FitsC c) :
    Ret (M.laws_szCategory c n) fun r => (r < 0 ∧ r = -1) ∨ (0 ≤ r ∧ r ≤ n ∧ SmallC c) := by
  obtain ⟨g1, g2, g3, g4, g5⟩ := h
  unfold M.laws_szCategory
  simp only [decide_eq_true_eq]
  (repeat' (first | with_reducible refine Ret.pos ‹_› ?_ | with_reducible refine Ret.neg ‹_› ?_ | with_reducible refine Ret.neg (Int.lt_irrefl _) ?_ | with_reducible refine Ret.ite (fun _ => ?_) (fun _ => ?_) | with_reducible refine Ret.idx ?_ ?_ ?_ | with_reducible refine Ret.chk ?_ ?_ | with_reducible refine hn3 ?_ | with_reducible refine hn2 ?_ | with_reducible refine hn1 ?_ | with_reducible refine hn3 _ ?_ | with_reducible refine hn2 _ ?_ | with_reducible refine hn1 _ ?_ | with_reducible refine Ret.bind (szInt64S_r ?_ ?_ ?_) fun v hv => ?_ | with_reducible refine Ret.bind (szInt64SS_r ?_ ?_ ?_ ?_) fun v hv => ?_ | with_reducible refine Ret.some ?_))
  all_goals first | assumption | omega | (refine Or.inl ⟨by omega, rfl⟩) | (refine Or.inr ⟨by omega, by omega, ⟨by omega, by omega, by omega, by omega, ?_⟩⟩; grind)

/-! ### copies -/

theorem clone_eq {l : List Int} (h : Small l) : M.impl_clone l = some l := by
  unfold M.impl_clone chk
  rw [if_pos (by unfold lim; simp only [List.length_nil]; omega)]; simp

theorem own_eq {l : List Int} (h : Small l) : M.spec_l01Own l = some l := by
  unfold M.spec_l01Own chk
  rw [if_pos (by unfold lim; simp only [List.length_nil]; omega)]; simp

theorem own2_eq {l : List (List Int)} (h : Small l) (hr : ∀ r ∈ l, Small r) : M.spec_l01Own2 l = some l := by
  apply Ret.eq
  unfold M.spec_l01Own2
  refine Ret.acc (l.length : Int) (fun i a => a = l.take i.toNat) (by omega) (by omega) (by simp) ?_ ?_
  · rintro i a next hi0 hi1 rfl hn1
    dsimp only
    simp only [decide_eq_true_eq]
    have := hr _ (el_mem hi0 hi1)
    (repeat' (first | with_reducible refine Ret.pos ‹_› ?_ | with_reducible refine Ret.neg ‹_› ?_ | with_reducible refine Ret.neg (Int.lt_irrefl _) ?_ | with_reducible refine Ret.ite (fun _ => ?_) (fun _ => ?_) | with_reducible refine Ret.idx ?_ ?_ ?_ | with_reducible refine Ret.chk ?_ ?_ | with_reducible refine hn3 ?_ | with_reducible refine hn2 ?_ | with_reducible refine hn1 ?_ | with_reducible refine hn3 _ ?_ | with_reducible refine hn2 _ ?_ | with_reducible refine hn1 _ ?_ | with_reducible refine Ret.call (own_eq ?_) ?_ | with_reducible refine Ret.some ?_))
    all_goals (try ((fail_if_success (with_reducible refine Ret.probe ?_)); grind [lim, take_succ_el]))
  · rintro a next rfl
    dsimp only
    simp only [decide_eq_true_eq]
    (repeat' (first | with_reducible refine Ret.pos ‹_› ?_ | with_reducible refine Ret.neg ‹_› ?_ | with_reducible refine Ret.neg (Int.lt_irrefl _) ?_ | with_reducible refine Ret.ite (fun _ => ?_) (fun _ => ?_) | with_reducible refine Ret.idx ?_ ?_ ?_ | with_reducible refine Ret.chk ?_ ?_ | with_reducible refine hn3 ?_ | with_reducible refine hn2 ?_ | with_reducible refine hn1 ?_ | with_reducible refine hn3 _ ?_ | with_reducible refine hn2 _ ?_ | with_reducible refine hn1 _ ?_ | with_reducible refine Ret.some ?_))
    simp

theorem clones_eq {l : List (List Int)} (h : Small l) (hr : ∀ r ∈ l, Small r) : M.impl_clones l = some l := by
  apply Ret.eq
  unfold M.impl_clones
  refine Ret.chk ⟨by omega, by unfold lim; omega⟩ ?_
  refine Ret.acc (l.length : Int) (fun i a => a = l.take i.toNat) (by omega) (by omega) (by simp) ?_ ?_
  · rintro i a next hi0 hi1 rfl hn1
    dsimp only
    simp only [decide_eq_true_eq]
    have := hr _ (el_mem hi0 hi1)
    (repeat' (first | with_reducible refine Ret.pos ‹_› ?_ | with_reducible refine Ret.neg ‹_› ?_ | with_reducible refine Ret.neg (Int.lt_irrefl _) ?_ | with_reducible refine Ret.ite (fun _ => ?_) (fun _ => ?_) | with_reducible refine Ret.idx ?_ ?_ ?_ | with_reducible refine Ret.chk ?_ ?_ | with_reducible refine hn3 ?_ | with_reducible refine hn2 ?_ | with_reducible refine hn1 ?_ | with_reducible refine hn3 _ ?_ | with_reducible refine hn2 _ ?_ | with_reducible refine hn1 _ ?_ | with_reducible refine Ret.call (clone_eq ?_) ?_ | with_reducible refine Ret.some ?_))
    all_goals (try ((fail_if_success (with_reducible refine Ret.probe ?_)); grind [lim, take_succ_el]))
  · rintro a next rfl
    dsimp only
    simp only [decide_eq_true_eq]
    (repeat' (first | with_reducible refine Ret.pos ‹_› ?_ | with_reducible refine Ret.neg ‹_› ?_ | with_reducible refine Ret.neg (Int.lt_irrefl _) ?_ | with_reducible refine Ret.ite (fun _ => ?_) (fun _ => ?_) | with_reducible refine Ret.idx ?_ ?_ ?_ | with_reducible refine Ret.chk ?_ ?_ | with_reducible refine hn3 ?_ | with_reducible refine hn2 ?_ | with_reducible refine hn1 ?_ | with_reducible refine hn3 _ ?_ | with_reducible refine hn2 _ ?_ | with_reducible refine hn1 _ ?_ | with_reducible refine Ret.some ?_))
    simp

/-- What a copying loop has written after i rounds. -/
theorem set_copy {α : Type} [Inhabited α] {l : List α} {z : α} {i : Int} (h0 : 0 ≤ i) (_ : i < (l.length : Int)) :
    (tab (l.length : Int) fun j => if j < i then el l j else z).set i.toNat (el l i) = tab (l.length : Int) fun j => if j < i + 1 then el l j else z := by
  rw [set_tab h0]
  apply tab_congr
  intro j hj0 hj1
  grind

theorem toInt64S_eq {l : List Int} (h : Small l) : M.laws_toInt64S l = some l := by
  apply Ret.eq
  unfold M.laws_toInt64S
  refine Ret.chk ⟨by omega, by unfold lim; omega⟩ ?_
  refine Ret.acc (l.length : Int) (fun i a => a = tab (l.length : Int) fun j => if j < i then el l j else 0) (by omega) (by omega) ?_ ?_ ?_
  · rw [rep_tab]; apply tab_congr; intro j h0 h1; rw [if_neg (by omega)]
  · rintro i a next hi0 hi1 rfl hn1
    dsimp only
    simp only [decide_eq_true_eq]
    have := set_copy (z := (0 : Int)) hi0 hi1
    (repeat' (first | with_reducible refine Ret.pos ‹_› ?_ | with_reducible refine Ret.neg ‹_› ?_ | with_reducible refine Ret.neg (Int.lt_irrefl _) ?_ | with_reducible refine Ret.ite (fun _ => ?_) (fun _ => ?_) | with_reducible refine Ret.idx ?_ ?_ ?_ | with_reducible refine Ret.chk ?_ ?_ | with_reducible refine hn3 ?_ | with_reducible refine hn2 ?_ | with_reducible refine hn1 ?_ | with_reducible refine hn3 _ ?_ | with_reducible refine hn2 _ ?_ | with_reducible refine hn1 _ ?_ | with_reducible refine Ret.some ?_))
    all_goals (try ((fail_if_success (with_reducible refine Ret.probe ?_)); grind [tab_length]))
  · rintro a next rfl
    dsimp only
    simp only [decide_eq_true_eq]
    (repeat' (first | with_reducible refine Ret.pos ‹_› ?_ | with_reducible refine Ret.neg ‹_› ?_ | with_reducible refine Ret.neg (Int.lt_irrefl _) ?_ | with_reducible refine Ret.ite (fun _ => ?_) (fun _ => ?_) | with_reducible refine Ret.idx ?_ ?_ ?_ | with_reducible refine Ret.chk ?_ ?_ | with_reducible refine hn3 ?_ | with_reducible refine hn2 ?_ | with_reducible refine hn1 ?_ | with_reducible refine hn3 _ ?_ | with_reducible refine hn2 _ ?_ | with_reducible refine hn1 _ ?_ | with_reducible refine Ret.some ?_))
    conv => rhs; rw [← tab_el l]
    apply tab_congr; intro j h0 h1; rw [if_pos h1]

theorem toInt64SS_eq {l : List (List Int)} (h : Small l) (hr : ∀ r ∈ l, Small r) : M.laws_toInt64SS l = some l := by
  apply Ret.eq
  unfold M.laws_toInt64SS
  refine Ret.chk ⟨by omega, by unfold lim; omega⟩ ?_
  refine Ret.acc (l.length : Int) (fun i a => a = tab (l.length : Int) fun j => if j < i then el l j else []) (by omega) (by omega) ?_ ?_ ?_
  · rw [rep_tab]; apply tab_congr; intro j h0 h1; rw [if_neg (by omega)]
  · rintro i a next hi0 hi1 rfl hn1
    dsimp only
    simp only [decide_eq_true_eq]
    have := set_copy (z := ([] : List Int)) hi0 hi1
    have := hr _ (el_mem hi0 hi1)
    (repeat' (first | with_reducible refine Ret.pos ‹_› ?_ | with_reducible refine Ret.neg ‹_› ?_ | with_reducible refine Ret.neg (Int.lt_irrefl _) ?_ | with_reducible refine Ret.ite (fun _ => ?_) (fun _ => ?_) | with_reducible refine Ret.idx ?_ ?_ ?_ | with_reducible refine Ret.chk ?_ ?_ | with_reducible refine hn3 ?_ | with_reducible refine hn2 ?_ | with_reducible refine hn1 ?_ | with_reducible refine hn3 _ ?_ | with_reducible refine hn2 _ ?_ | with_reducible refine hn1 _ ?_ | with_reducible refine Ret.call (toInt64S_eq ?_) ?_ | with_reducible refine Ret.some ?_))
    all_goals (try ((fail_if_success (with_reducible refine Ret.probe ?_)); grind [tab_length]))
  · rintro a next rfl
    dsimp only
    simp only [decide_eq_true_eq]
    (repeat' (first | with_reducible refine Ret.pos ‹_› ?_ | with_reducible refine Ret.neg ‹_› ?_ | with_reducible refine Ret.neg (Int.lt_irrefl _) ?_ | with_reducible refine Ret.ite (fun _ => ?_) (fun _ => ?_) | with_reducible refine Ret.idx ?_ ?_ ?_ | with_reducible refine Ret.chk ?_ ?_ | with_reducible refine hn3 ?_ | with_reducible refine hn2 ?_ | with_reducible refine hn1 ?_ | with_reducible refine hn3 _ ?_ | with_reducible refine hn2 _ ?_ | with_reducible refine hn1 _ ?_ | with_reducible refine Ret.some ?_))
    conv => rhs; rw [← tab_el l]
    apply tab_congr; intro j h0 h1; rw [if_pos h1]

theorem toCategory_eq {c : XCategory} (h : SmallC c) : M.laws_toCategory c = some c := by
  unfold M.laws_toCategory
  rw [toInt64S_eq h.s1, toInt64S_eq h.s2, toInt64S_eq h.s3, toInt64SS_eq h.s4 h.s5]; rfl

theorem l02Own_eq {c : XCategory} (h : SmallC c) : M.spec_l02Own c = some c := by
  unfold M.spec_l02Own
  rw [own_eq h.s1, own_eq h.s2, own_eq h.s3, own2_eq h.s4 h.s5]; rfl

theorem copy_eq {c : XCategory} (h : SmallC c) : M.impl_Category_copy c = some c := by
  unfold M.impl_Category_copy
  rw [clone_eq h.s1, clone_eq h.s2, clone_eq h.s3, clones_eq h.s4 h.s5]; rfl

theorem l06Make_eq {s t : XCategory} {o a : List Int} (hs : SmallC s) (ht : SmallC t) (ho : Small o) (ha : Small a) : M.spec_l06Make s t o a = some ⟨s, t, o, a⟩ := by
  unfold M.spec_l06Make
  rw [l02Own_eq hs, l02Own_eq ht, own_eq ho, own_eq ha]; rfl

theorem functor_eq {s t : XCategory} {o a : List Int} (hs : SmallC s) (ht : SmallC t) (ho : Small o) (ha : Small a) : M.impl_functor s t o a = some ⟨s, t, o, a⟩ := by
  unfold M.impl_functor
  rw [copy_eq hs, copy_eq ht, clone_eq ho, clone_eq ha]; rfl

/-! ### equality -/

theorem eqInt64S_refl {l : List Int} (h : Small l) : M.laws_eqInt64S l l = some true := by
  apply Ret.eq
  unfold M.laws_eqInt64S
  simp only [bne_self_eq_false, Bool.false_eq_true, if_false, decide_eq_true_eq]
  refine Ret.all (l.length : Int) (fun _ => True) (by omega) (by omega) ?_ ?_
  · intro i next hi0 hi1 hp hn1
    (repeat' (first | with_reducible refine Ret.pos ‹_› ?_ | with_reducible refine Ret.neg ‹_› ?_ | with_reducible refine Ret.neg (Int.lt_irrefl _) ?_ | with_reducible refine Ret.ite (fun _ => ?_) (fun _ => ?_) | with_reducible refine Ret.idx ?_ ?_ ?_ | with_reducible refine Ret.chk ?_ ?_ | with_reducible refine hn3 ?_ | with_reducible refine hn2 ?_ | with_reducible refine hn1 ?_ | with_reducible refine hn3 _ ?_ | with_reducible refine hn2 _ ?_ | with_reducible refine hn1 _ ?_ | with_reducible refine Ret.some ?_))
    all_goals (try ((fail_if_success (with_reducible refine Ret.probe ?_)); grind))
  · intro next hp
    (repeat' (first | with_reducible refine Ret.pos ‹_› ?_ | with_reducible refine Ret.neg ‹_› ?_ | with_reducible refine Ret.neg (Int.lt_irrefl _) ?_ | with_reducible refine Ret.ite (fun _ => ?_) (fun _ => ?_) | with_reducible refine Ret.idx ?_ ?_ ?_ | with_reducible refine Ret.chk ?_ ?_ | with_reducible refine hn3 ?_ | with_reducible refine hn2 ?_ | with_reducible refine hn1 ?_ | with_reducible refine hn3 _ ?_ | with_reducible refine hn2 _ ?_ | with_reducible refine hn1 _ ?_ | with_reducible refine Ret.some ?_))
    all_goals (try ((fail_if_success (with_reducible refine Ret.probe ?_)); grind))

end Go.Gx

/- Plain laws: which tables are categories, and which are functors, by spec and by impl alike. -/
namespace Go.Gx
open Classical
set_option maxHeartbeats 4000000

theorem eqInt64SS_refl {l : List (List Int)} (h : Small l) (hr : ∀ r ∈ l, Small r) : M.laws_eqInt64SS l l = some true := by
  apply Ret.eq
  unfold M.laws_eqInt64SS
  simp only [bne_self_eq_false, Bool.false_eq_true, if_false, decide_eq_true_eq]
  refine Ret.all (l.length : Int) (fun _ => True) (by omega) (by omega) ?_ ?_
  · intro i next hi0 hi1 hp hn1
    have := hr _ (el_mem hi0 hi1)
    (repeat' (first | with_reducible refine Ret.pos ‹_› ?_ | with_reducible refine Ret.neg ‹_› ?_ | with_reducible refine Ret.neg (Int.lt_irrefl _) ?_ | with_reducible refine Ret.ite (fun _ => ?_) (fun _ => ?_) | with_reducible refine Ret.idx ?_ ?_ ?_ | with_reducible refine Ret.chk ?_ ?_ | with_reducible refine hn3 ?_ | with_reducible refine hn2 ?_ | with_reducible refine hn1 ?_ | with_reducible refine hn3 _ ?_ | with_reducible refine hn2 _ ?_ | with_reducible refine hn1 _ ?_ | with_reducible refine Ret.call (eqInt64S_refl ?_) ?_ | with_reducible refine Ret.some ?_))
    all_goals (try ((fail_if_success (with_reducible refine Ret.probe ?_)); grind))
  · intro next hp
    (repeat' (first | with_reducible refine Ret.pos ‹_› ?_ | with_reducible refine Ret.neg ‹_› ?_ | with_reducible refine Ret.neg (Int.lt_irrefl _) ?_ | with_reducible refine Ret.ite (fun _ => ?_) (fun _ => ?_) | with_reducible refine Ret.idx ?_ ?_ ?_ | with_reducible refine Ret.chk ?_ ?_ | with_reducible refine hn3 ?_ | with_reducible refine hn2 ?_ | with_reducible refine hn1 ?_ | with_reducible refine hn3 _ ?_ | with_reducible refine hn2 _ ?_ | with_reducible refine hn1 _ ?_ | with_reducible refine Ret.some ?_))
    all_goals (try ((fail_if_success (with_reducible refine Ret.probe ?_)); grind))

theorem eqCategory_refl {c : XCategory} (h : SmallC c) : M.laws_eqCategory c c = some true := by
  unfold M.laws_eqCategory
  rw [eqInt64S_refl h.s1, eqInt64S_refl h.s2, eqInt64S_refl h.s3, eqInt64SS_refl h.s4 h.s5]; simp

theorem eqFunctor_refl {f : XFunctor} (h : SmallF f) : M.laws_eqFunctor f f = some true := by
  unfold M.laws_eqFunctor
  rw [eqCategory_refl h.s1, eqCategory_refl h.s2, eqInt64S_refl h.s3, eqInt64S_refl h.s4]; simp

/-! ### ranges -/

abbrev In (n : Int) (l : List Int) : Prop := ∀ i, 0 ≤ i → i < (l.length : Int) → 0 ≤ el l i ∧ el l i < n

theorem l01In_eq (a b c : Int) : M.spec_l01In a b c = some (decide (b ≤ a) && decide (a ≤ c)) := by
  unfold M.spec_l01In
  by_cases h : b ≤ a <;> simp [h]
theorem inRange_eq (a b c : Int) : M.impl_inRange a b c = some (decide (b ≤ a) && decide (a ≤ c)) := by
  unfold M.impl_inRange
  by_cases h : b ≤ a <;> simp [h]

theorem l01Map_eq {n : Int} {l : List Int} (h : Small l) : M.spec_l01Map n l = some (decide (In n l)) := by
  apply Ret.ask
  unfold M.spec_l01Map
  simp only [decide_eq_true_eq]
  refine Ret.all (l.length : Int) (fun i => 0 ≤ el l i ∧ el l i < n) (by omega) (by omega) ?_ ?_
  · intro i next hi0 hi1 hp hn1
    (repeat' (first | with_reducible refine Ret.pos ‹_› ?_ | with_reducible refine Ret.neg ‹_› ?_ | with_reducible refine Ret.neg (Int.lt_irrefl _) ?_ | with_reducible refine Ret.ite (fun _ => ?_) (fun _ => ?_) | with_reducible refine Ret.idx ?_ ?_ ?_ | with_reducible refine Ret.chk ?_ ?_ | with_reducible refine hn3 ?_ | with_reducible refine hn2 ?_ | with_reducible refine hn1 ?_ | with_reducible refine hn3 _ ?_ | with_reducible refine hn2 _ ?_ | with_reducible refine hn1 _ ?_ | with_reducible refine Ret.some ?_))
    all_goals (try ((fail_if_success (with_reducible refine Ret.probe ?_)); grind))
  · intro next hp
    (repeat' (first | with_reducible refine Ret.pos ‹_› ?_ | with_reducible refine Ret.neg ‹_› ?_ | with_reducible refine Ret.neg (Int.lt_irrefl _) ?_ | with_reducible refine Ret.ite (fun _ => ?_) (fun _ => ?_) | with_reducible refine Ret.idx ?_ ?_ ?_ | with_reducible refine Ret.chk ?_ ?_ | with_reducible refine hn3 ?_ | with_reducible refine hn2 ?_ | with_reducible refine hn1 ?_ | with_reducible refine hn3 _ ?_ | with_reducible refine hn2 _ ?_ | with_reducible refine hn1 _ ?_ | with_reducible refine Ret.some ?_))
    all_goals (try ((fail_if_success (with_reducible refine Ret.probe ?_)); grind))

theorem within_eq {n : Int} {l : List Int} (h : Small l) (h0 : -4611686018427387904 ≤ n) (h1 : n ≤ 4611686018427387904) : M.impl_within l n = some (decide (In n l)) := by
  apply Ret.ask
  unfold M.impl_within
  rw [wrap_in (by omega) (by omega)]
  simp only [decide_eq_true_eq]
  refine Ret.all (l.length : Int) (fun i => 0 ≤ el l i ∧ el l i < n) (by omega) (by omega) ?_ ?_
  · intro i next hi0 hi1 hp hn1
    (repeat' (first | with_reducible refine Ret.pos ‹_› ?_ | with_reducible refine Ret.neg ‹_› ?_ | with_reducible refine Ret.neg (Int.lt_irrefl _) ?_ | with_reducible refine Ret.ite (fun _ => ?_) (fun _ => ?_) | with_reducible refine Ret.idx ?_ ?_ ?_ | with_reducible refine Ret.chk ?_ ?_ | with_reducible refine hn3 ?_ | with_reducible refine hn2 ?_ | with_reducible refine hn1 ?_ | with_reducible refine hn3 _ ?_ | with_reducible refine hn2 _ ?_ | with_reducible refine hn1 _ ?_ | with_reducible refine Ret.call (inRange_eq _ _ _) ?_ | with_reducible refine Ret.some ?_))
    all_goals (try ((fail_if_success (with_reducible refine Ret.probe ?_)); grind))
  · intro next hp
    (repeat' (first | with_reducible refine Ret.pos ‹_› ?_ | with_reducible refine Ret.neg ‹_› ?_ | with_reducible refine Ret.neg (Int.lt_irrefl _) ?_ | with_reducible refine Ret.ite (fun _ => ?_) (fun _ => ?_) | with_reducible refine Ret.idx ?_ ?_ ?_ | with_reducible refine Ret.chk ?_ ?_ | with_reducible refine hn3 ?_ | with_reducible refine hn2 ?_ | with_reducible refine hn1 ?_ | with_reducible refine hn3 _ ?_ | with_reducible refine hn2 _ ?_ | with_reducible refine hn1 _ ?_ | with_reducible refine Ret.call (inRange_eq _ _ _) ?_ | with_reducible refine Ret.some ?_))
    all_goals (try ((fail_if_success (with_reducible refine Ret.probe ?_)); grind))

theorem l02Ends_eq {n m : Int} {l : List Int} (h : Small l) : M.spec_l02Ends l m n = some (decide ((l.length : Int) = m ∧ In n l)) := by
  apply Ret.ask
  unfold M.spec_l02Ends
  simp only [beq_iff_eq]
  (repeat' (first | with_reducible refine Ret.pos ‹_› ?_ | with_reducible refine Ret.neg ‹_› ?_ | with_reducible refine Ret.neg (Int.lt_irrefl _) ?_ | with_reducible refine Ret.ite (fun _ => ?_) (fun _ => ?_) | with_reducible refine Ret.idx ?_ ?_ ?_ | with_reducible refine Ret.chk ?_ ?_ | with_reducible refine hn3 ?_ | with_reducible refine hn2 ?_ | with_reducible refine hn1 ?_ | with_reducible refine hn3 _ ?_ | with_reducible refine hn2 _ ?_ | with_reducible refine hn1 _ ?_ | with_reducible refine Ret.call (l01Map_eq h) ?_ | with_reducible refine Ret.some ?_))
  all_goals (try ((fail_if_success (with_reducible refine Ret.probe ?_)); grind))

/-! ### categories -/

/-- The composite of i and j. -/
abbrev cmp (c : XCategory) (i j : Int) : Int := el (el c.Composites i) j

def CompOk (c : XCategory) (i j : Int) : Prop :=
  (el c.To i ≠ el c.From j → cmp c i j = -1) ∧
  (el c.To i = el c.From j → 0 ≤ cmp c i j ∧ cmp c i j < (c.From.length : Int) ∧ el c.From (cmp c i j) = el c.From i ∧ el c.To (cmp c i j) = el c.To j)

def Shape (c : XCategory) : Prop :=
  0 ≤ c.Objects ∧ c.Objects ≤ 8 ∧ (c.From.length : Int) ≤ 40 ∧ (c.To.length : Int) = (c.From.length : Int) ∧ (c.Identity.length : Int) = c.Objects ∧
  (c.Composites.length : Int) = (c.From.length : Int) ∧ In c.Objects c.From ∧ In c.Objects c.To ∧ In (c.From.length : Int) c.Identity ∧
  (∀ i, 0 ≤ i → i < c.Objects → el c.From (el c.Identity i) = i ∧ el c.To (el c.Identity i) = i) ∧
  (∀ i, 0 ≤ i → i < (c.From.length : Int) → ((el c.Composites i).length : Int) = (c.From.length : Int) ∧ ∀ j, 0 ≤ j → j < (c.From.length : Int) → CompOk c i j)

theorem IsShape_eq {c : XCategory} (h : SmallC c) : M.spec_IsShape c = some (decide (Shape c)) := by
  apply Ret.ask
  obtain ⟨s1, s2, s3, s4, s5⟩ := h
  unfold M.spec_IsShape
  simp only [decide_eq_true_eq, bne_iff_ne, ne_eq]
  (repeat' (first | with_reducible refine Ret.pos ‹_› ?_ | with_reducible refine Ret.neg ‹_› ?_ | with_reducible refine Ret.neg (Int.lt_irrefl _) ?_ | with_reducible refine Ret.ite (fun _ => ?_) (fun _ => ?_) | with_reducible refine Ret.idx ?_ ?_ ?_ | with_reducible refine Ret.chk ?_ ?_ | with_reducible refine hn3 ?_ | with_reducible refine hn2 ?_ | with_reducible refine hn1 ?_ | with_reducible refine hn3 _ ?_ | with_reducible refine hn2 _ ?_ | with_reducible refine hn1 _ ?_ | with_reducible refine Ret.call (l01In_eq _ _ _) ?_ | with_reducible refine Ret.call (l02Ends_eq ?_) ?_ | with_reducible refine Ret.call (l01Map_eq ?_) ?_ | with_reducible refine Ret.some ?_))
  all_goals (try ((fail_if_success (with_reducible refine Ret.probe ?_)); grind [Shape]))
  refine Ret.all c.Objects (fun i => el c.From (el c.Identity i) = i ∧ el c.To (el c.Identity i) = i) ?_ ?_ ?_ ?_
  · grind
  · grind
  · intro i next hi0 hi1 hp hn1
    (repeat' (first | with_reducible refine Ret.pos ‹_› ?_ | with_reducible refine Ret.neg ‹_› ?_ | with_reducible refine Ret.neg (Int.lt_irrefl _) ?_ | with_reducible refine Ret.ite (fun _ => ?_) (fun _ => ?_) | with_reducible refine Ret.idx ?_ ?_ ?_ | with_reducible refine Ret.chk ?_ ?_ | with_reducible refine hn3 ?_ | with_reducible refine hn2 ?_ | with_reducible refine hn1 ?_ | with_reducible refine hn3 _ ?_ | with_reducible refine hn2 _ ?_ | with_reducible refine hn1 _ ?_ | with_reducible refine Ret.some ?_))
    all_goals (try ((fail_if_success (with_reducible refine Ret.probe ?_)); grind [Shape]))
  · intro next hpI
    (repeat' (first | with_reducible refine Ret.pos ‹_› ?_ | with_reducible refine Ret.neg ‹_› ?_ | with_reducible refine Ret.neg (Int.lt_irrefl _) ?_ | with_reducible refine Ret.ite (fun _ => ?_) (fun _ => ?_) | with_reducible refine Ret.idx ?_ ?_ ?_ | with_reducible refine Ret.chk ?_ ?_ | with_reducible refine hn3 ?_ | with_reducible refine hn2 ?_ | with_reducible refine hn1 ?_ | with_reducible refine hn3 _ ?_ | with_reducible refine hn2 _ ?_ | with_reducible refine hn1 _ ?_ | with_reducible refine Ret.some ?_))
    all_goals (try ((fail_if_success (with_reducible refine Ret.probe ?_)); grind))
    refine Ret.all (c.From.length : Int) (fun i => ((el c.Composites i).length : Int) = (c.From.length : Int) ∧ ∀ j, 0 ≤ j → j < (c.From.length : Int) → CompOk c i j) (by omega) (by omega) ?_ ?_
    · intro i next hi0 hi1 hp hn1
      (repeat' (first | with_reducible refine Ret.pos ‹_› ?_ | with_reducible refine Ret.neg ‹_› ?_ | with_reducible refine Ret.neg (Int.lt_irrefl _) ?_ | with_reducible refine Ret.ite (fun _ => ?_) (fun _ => ?_) | with_reducible refine Ret.idx ?_ ?_ ?_ | with_reducible refine Ret.chk ?_ ?_ | with_reducible refine hn3 ?_ | with_reducible refine hn2 ?_ | with_reducible refine hn1 ?_ | with_reducible refine hn3 _ ?_ | with_reducible refine hn2 _ ?_ | with_reducible refine hn1 _ ?_ | with_reducible refine Ret.some ?_))
      all_goals (try ((fail_if_success (with_reducible refine Ret.probe ?_)); grind [Shape]))
      refine Ret.all (c.From.length : Int) (fun j => CompOk c i j) (by omega) (by omega) ?_ ?_
      · intro j next hj0 hj1 hp2 hn2
        (repeat' (first | with_reducible refine Ret.pos ‹_› ?_ | with_reducible refine Ret.neg ‹_› ?_ | with_reducible refine Ret.neg (Int.lt_irrefl _) ?_ | with_reducible refine Ret.ite (fun _ => ?_) (fun _ => ?_) | with_reducible refine Ret.idx ?_ ?_ ?_ | with_reducible refine Ret.chk ?_ ?_ | with_reducible refine hn3 ?_ | with_reducible refine hn2 ?_ | with_reducible refine hn1 ?_ | with_reducible refine hn3 _ ?_ | with_reducible refine hn2 _ ?_ | with_reducible refine hn1 _ ?_ | with_reducible refine Ret.some ?_))
        all_goals (try ((fail_if_success (with_reducible refine Ret.probe ?_)); grind [Shape, CompOk]))
      · intro next hp2
        (repeat' (first | with_reducible refine Ret.pos ‹_› ?_ | with_reducible refine Ret.neg ‹_› ?_ | with_reducible refine Ret.neg (Int.lt_irrefl _) ?_ | with_reducible refine Ret.ite (fun _ => ?_) (fun _ => ?_) | with_reducible refine Ret.idx ?_ ?_ ?_ | with_reducible refine Ret.chk ?_ ?_ | with_reducible refine hn3 ?_ | with_reducible refine hn2 ?_ | with_reducible refine hn1 ?_ | with_reducible refine hn3 _ ?_ | with_reducible refine hn2 _ ?_ | with_reducible refine hn1 _ ?_ | with_reducible refine Ret.some ?_))
        all_goals (try ((fail_if_success (with_reducible refine Ret.probe ?_)); grind))
    · intro next hp
      (repeat' (first | with_reducible refine Ret.pos ‹_› ?_ | with_reducible refine Ret.neg ‹_› ?_ | with_reducible refine Ret.neg (Int.lt_irrefl _) ?_ | with_reducible refine Ret.ite (fun _ => ?_) (fun _ => ?_) | with_reducible refine Ret.idx ?_ ?_ ?_ | with_reducible refine Ret.chk ?_ ?_ | with_reducible refine hn3 ?_ | with_reducible refine hn2 ?_ | with_reducible refine hn1 ?_ | with_reducible refine hn3 _ ?_ | with_reducible refine hn2 _ ?_ | with_reducible refine hn1 _ ?_ | with_reducible refine Ret.some ?_))
      all_goals (try ((fail_if_success (with_reducible refine Ret.probe ?_)); grind [Shape]))

theorem ends_eq {c : XCategory} {y : Int} (h0 : 0 ≤ y) (h1 : y < (c.From.length : Int)) (h2 : y < (c.To.length : Int)) : M.impl_Category_ends c y = some ⟨el c.From y, el c.To y⟩ := by
  unfold M.impl_Category_ends
  rw [idx_el h0 h1, idx_el h0 h2]; rfl

theorem isShape_eq {c : XCategory} (h : SmallC c) : M.impl_Category_isShape c = some (decide (Shape c)) := by
  apply Ret.ask
  obtain ⟨s1, s2, s3, s4, s5⟩ := h
  unfold M.impl_Category_isShape M.impl_Category_arrows
  have hw : IntKind.i64.wrap ((c.From.length : Int) - 1) = (c.From.length : Int) - 1 := wrap_in (by omega) (by omega)
  simp only [decide_eq_true_eq, bne_iff_ne, ne_eq, Option.bind_some, hw]
  (repeat' (first | with_reducible refine Ret.pos ‹_› ?_ | with_reducible refine Ret.neg ‹_› ?_ | with_reducible refine Ret.neg (Int.lt_irrefl _) ?_ | with_reducible refine Ret.ite (fun _ => ?_) (fun _ => ?_) | with_reducible refine Ret.idx ?_ ?_ ?_ | with_reducible refine Ret.chk ?_ ?_ | with_reducible refine hn3 ?_ | with_reducible refine hn2 ?_ | with_reducible refine hn1 ?_ | with_reducible refine hn3 _ ?_ | with_reducible refine hn2 _ ?_ | with_reducible refine hn1 _ ?_ | with_reducible refine Ret.call (inRange_eq _ _ _) ?_ | with_reducible refine Ret.call (within_eq ?_ ?_ ?_) ?_ | with_reducible refine Ret.some ?_))
  all_goals (try ((fail_if_success (with_reducible refine Ret.probe ?_)); grind [Shape]))
  refine Ret.all (c.Identity.length : Int) (fun i => el c.From (el c.Identity i) = i ∧ el c.To (el c.Identity i) = i) ?_ ?_ ?_ ?_
  · grind
  · grind
  · intro i next hi0 hi1 hp hn1
    (repeat' (first | with_reducible refine Ret.pos ‹_› ?_ | with_reducible refine Ret.neg ‹_› ?_ | with_reducible refine Ret.neg (Int.lt_irrefl _) ?_ | with_reducible refine Ret.ite (fun _ => ?_) (fun _ => ?_) | with_reducible refine Ret.idx ?_ ?_ ?_ | with_reducible refine Ret.chk ?_ ?_ | with_reducible refine hn3 ?_ | with_reducible refine hn2 ?_ | with_reducible refine hn1 ?_ | with_reducible refine hn3 _ ?_ | with_reducible refine hn2 _ ?_ | with_reducible refine hn1 _ ?_ | with_reducible refine Ret.call (ends_eq ?_ ?_ ?_) ?_ | with_reducible refine Ret.some ?_))
    all_goals (try ((fail_if_success (with_reducible refine Ret.probe ?_)); grind [Shape]))
  · intro next hpI
    (repeat' (first | with_reducible refine Ret.pos ‹_› ?_ | with_reducible refine Ret.neg ‹_› ?_ | with_reducible refine Ret.neg (Int.lt_irrefl _) ?_ | with_reducible refine Ret.ite (fun _ => ?_) (fun _ => ?_) | with_reducible refine Ret.idx ?_ ?_ ?_ | with_reducible refine Ret.chk ?_ ?_ | with_reducible refine hn3 ?_ | with_reducible refine hn2 ?_ | with_reducible refine hn1 ?_ | with_reducible refine hn3 _ ?_ | with_reducible refine hn2 _ ?_ | with_reducible refine hn1 _ ?_ | with_reducible refine Ret.some ?_))
    all_goals (try ((fail_if_success (with_reducible refine Ret.probe ?_)); grind))
    refine Ret.all (c.Composites.length : Int) (fun i => ((el c.Composites i).length : Int) = (c.From.length : Int) ∧ ∀ j, 0 ≤ j → j < (c.From.length : Int) → CompOk c i j) (by omega) (by omega) ?_ ?_
    · intro i next hi0 hi1 hp hn1
      (repeat' (first | with_reducible refine Ret.pos ‹_› ?_ | with_reducible refine Ret.neg ‹_› ?_ | with_reducible refine Ret.neg (Int.lt_irrefl _) ?_ | with_reducible refine Ret.ite (fun _ => ?_) (fun _ => ?_) | with_reducible refine Ret.idx ?_ ?_ ?_ | with_reducible refine Ret.chk ?_ ?_ | with_reducible refine hn3 ?_ | with_reducible refine hn2 ?_ | with_reducible refine hn1 ?_ | with_reducible refine hn3 _ ?_ | with_reducible refine hn2 _ ?_ | with_reducible refine hn1 _ ?_ | with_reducible refine Ret.some ?_))
      all_goals (try ((fail_if_success (with_reducible refine Ret.probe ?_)); grind [Shape]))
      refine Ret.all ((el c.Composites i).length : Int) (fun j => CompOk c i j) (by omega) (by omega) ?_ ?_
      · intro j next hj0 hj1 hp2 hn2
        (repeat' (first | with_reducible refine Ret.pos ‹_› ?_ | with_reducible refine Ret.neg ‹_› ?_ | with_reducible refine Ret.neg (Int.lt_irrefl _) ?_ | with_reducible refine Ret.ite (fun _ => ?_) (fun _ => ?_) | with_reducible refine Ret.idx ?_ ?_ ?_ | with_reducible refine Ret.chk ?_ ?_ | with_reducible refine hn3 ?_ | with_reducible refine hn2 ?_ | with_reducible refine hn1 ?_ | with_reducible refine hn3 _ ?_ | with_reducible refine hn2 _ ?_ | with_reducible refine hn1 _ ?_ | with_reducible refine Ret.call (inRange_eq _ _ _) ?_ | with_reducible refine Ret.call (ends_eq ?_ ?_ ?_) ?_ | with_reducible refine Ret.some ?_))
        all_goals (try ((fail_if_success (with_reducible refine Ret.probe ?_)); grind [Shape, CompOk]))
      · intro next hp2
        (repeat' (first | with_reducible refine Ret.pos ‹_› ?_ | with_reducible refine Ret.neg ‹_› ?_ | with_reducible refine Ret.neg (Int.lt_irrefl _) ?_ | with_reducible refine Ret.ite (fun _ => ?_) (fun _ => ?_) | with_reducible refine Ret.idx ?_ ?_ ?_ | with_reducible refine Ret.chk ?_ ?_ | with_reducible refine hn3 ?_ | with_reducible refine hn2 ?_ | with_reducible refine hn1 ?_ | with_reducible refine hn3 _ ?_ | with_reducible refine hn2 _ ?_ | with_reducible refine hn1 _ ?_ | with_reducible refine Ret.some ?_))
        all_goals (try ((fail_if_success (with_reducible refine Ret.probe ?_)); grind))
    · intro next hp
      (repeat' (first | with_reducible refine Ret.pos ‹_› ?_ | with_reducible refine Ret.neg ‹_› ?_ | with_reducible refine Ret.neg (Int.lt_irrefl _) ?_ | with_reducible refine Ret.ite (fun _ => ?_) (fun _ => ?_) | with_reducible refine Ret.idx ?_ ?_ ?_ | with_reducible refine Ret.chk ?_ ?_ | with_reducible refine hn3 ?_ | with_reducible refine hn2 ?_ | with_reducible refine hn1 ?_ | with_reducible refine hn3 _ ?_ | with_reducible refine hn2 _ ?_ | with_reducible refine hn1 _ ?_ | with_reducible refine Ret.some ?_))
      rename_i b1 b2 b3 b4 b5 b6 b7 b8 nx
      simp only [Bool.and_eq_true, decide_eq_true_eq, Decidable.not_not] at b1 b2 b3 b4 b5 b6 b7 b8
      exact ⟨fun _ => ⟨b1.1, b1.2, by omega, b3, b6, b8, b4, b5, b7, fun i h0 h1 => hpI i h0 (by omega), fun i h0 h1 => hp i h0 (by omega)⟩, fun _ => rfl⟩

end Go.Gx

/- Plain laws: the laws of a category, and functors. -/
namespace Go.Gx
open Classical
set_option maxHeartbeats 4000000

def NoFault (c : XCategory) : Prop :=
  (∀ f, 0 ≤ f → f < (c.From.length : Int) → cmp c (el c.Identity (el c.From f)) f = f ∧ cmp c f (el c.Identity (el c.To f)) = f) ∧
  (∀ f g h, 0 ≤ f → f < (c.From.length : Int) → 0 ≤ g → g < (c.From.length : Int) → 0 ≤ h → h < (c.From.length : Int) → el c.To f = el c.From g → el c.To g = el c.From h →
    cmp c (cmp c f g) h = cmp c f (cmp c g h))

/-- The parts of a shape, ready to be used. -/
structure Shp (c : XCategory) : Prop where
  n0 : 0 ≤ c.Objects
  n8 : c.Objects ≤ 8
  m40 : (c.From.length : Int) ≤ 40
  lto : (c.To.length : Int) = (c.From.length : Int)
  lid : (c.Identity.length : Int) = c.Objects
  lco : (c.Composites.length : Int) = (c.From.length : Int)
  from_in : ∀ i, 0 ≤ i → i < (c.From.length : Int) → 0 ≤ el c.From i ∧ el c.From i < c.Objects
  to_in : ∀ i, 0 ≤ i → i < (c.From.length : Int) → 0 ≤ el c.To i ∧ el c.To i < c.Objects
  id_in : ∀ i, 0 ≤ i → i < c.Objects → 0 ≤ el c.Identity i ∧ el c.Identity i < (c.From.length : Int)
  id_from : ∀ i, 0 ≤ i → i < c.Objects → el c.From (el c.Identity i) = i
  id_to : ∀ i, 0 ≤ i → i < c.Objects → el c.To (el c.Identity i) = i
  row : ∀ i, 0 ≤ i → i < (c.From.length : Int) → ((el c.Composites i).length : Int) = (c.From.length : Int)
  no : ∀ i j, 0 ≤ i → i < (c.From.length : Int) → 0 ≤ j → j < (c.From.length : Int) → el c.To i ≠ el c.From j → cmp c i j = -1
  yes : ∀ i j, 0 ≤ i → i < (c.From.length : Int) → 0 ≤ j → j < (c.From.length : Int) → el c.To i = el c.From j → 0 ≤ cmp c i j ∧ cmp c i j < (c.From.length : Int)
  cfrom : ∀ i j, 0 ≤ i → i < (c.From.length : Int) → 0 ≤ j → j < (c.From.length : Int) → el c.To i = el c.From j → el c.From (cmp c i j) = el c.From i
  cto : ∀ i j, 0 ≤ i → i < (c.From.length : Int) → 0 ≤ j → j < (c.From.length : Int) → el c.To i = el c.From j → el c.To (cmp c i j) = el c.To j

theorem Shape.shp {c : XCategory} (h : Shape c) : Shp c := by
  obtain ⟨h1, h2, h3, h4, h5, h6, h7, h8, h9, h10, h11⟩ := h
  refine ⟨h1, h2, h3, h4, h5, h6, h7, fun i h0 hi => h8 i h0 (by omega), fun i h0 hi => h9 i h0 (by omega), fun i h0 hi => (h10 i h0 hi).1, fun i h0 hi => (h10 i h0 hi).2, fun i h0 hi => (h11 i h0 hi).1, ?_, ?_, ?_, ?_⟩
  · intro i j hi0 hi1 hj0 hj1 hne
    exact ((h11 i hi0 hi1).2 j hj0 hj1).1 hne
  · intro i j hi0 hi1 hj0 hj1 he
    have := ((h11 i hi0 hi1).2 j hj0 hj1).2 he
    exact ⟨this.1, this.2.1⟩
  · intro i j hi0 hi1 hj0 hj1 he
    exact (((h11 i hi0 hi1).2 j hj0 hj1).2 he).2.2.1
  · intro i j hi0 hi1 hj0 hj1 he
    exact (((h11 i hi0 hi1).2 j hj0 hj1).2 he).2.2.2

theorem Shp.small {c : XCategory} (h : Shp c) : SmallC c := by
  obtain ⟨h1, h2, h3, h4, h5, h6, h7, h8, h9, h10, h11, h12, h13, h14, h15, h16⟩ := h
  refine ⟨by omega, by omega, by omega, by omega, fun r hr => ?_⟩
  obtain ⟨i, h0, h1', rfl⟩ := mem_el hr
  have := h12 i h0 (by omega)
  omega

theorem then_eq {c : XCategory} {i j : Int} (h0 : 0 ≤ i) (h1 : i < (c.Composites.length : Int)) (h2 : 0 ≤ j) (h3 : j < ((el c.Composites i).length : Int)) : M.impl_Category_then c i j = some (cmp c i j) := by
  unfold M.impl_Category_then
  rw [idx_el h0 h1]
  show (idx (el c.Composites i) j).bind _ = _
  rw [idx_el h2 h3]; rfl

theorem l02Fault_r {c : XCategory} (h : Shp c) : Ret (M.spec_l02Fault c) fun r => r.1 = 0 ↔ NoFault c := by
  obtain ⟨h1, h2, h3, h4, h5, h6, h7, h8, h9, h10, h11, h12, h13, h14, h15, h16⟩ := h
  unfold M.spec_l02Fault
  simp only [decide_eq_true_eq, beq_iff_eq, bne_iff_ne, ne_eq]
  refine Ret.all (c.From.length : Int) (fun f => cmp c (el c.Identity (el c.From f)) f = f ∧ cmp c f (el c.Identity (el c.To f)) = f) (by omega) (by omega) ?_ ?_
  · intro i next hi0 hi1 hp hn1
    have := h7 i hi0 hi1
    have := h8 i hi0 hi1
    have hno : ¬ (cmp c (el c.Identity (el c.From i)) i = i ∧ cmp c i (el c.Identity (el c.To i)) = i) → ¬ NoFault c := fun hx hN => hx (hN.1 i hi0 hi1)
    (repeat' (first | with_reducible refine Ret.pos ‹_› ?_ | with_reducible refine Ret.neg ‹_› ?_ | with_reducible refine Ret.neg (Int.lt_irrefl _) ?_ | with_reducible refine Ret.ite (fun _ => ?_) (fun _ => ?_) | with_reducible refine Ret.idx ?_ ?_ ?_ | with_reducible refine Ret.chk ?_ ?_ | with_reducible refine hn3 ?_ | with_reducible refine hn2 ?_ | with_reducible refine hn1 ?_ | with_reducible refine hn3 _ ?_ | with_reducible refine hn2 _ ?_ | with_reducible refine hn1 _ ?_ | with_reducible refine Ret.some ?_))
    all_goals (try ((fail_if_success (with_reducible refine Ret.probe ?_)); grind))
  · intro next hpI
    (repeat' (first | with_reducible refine Ret.pos ‹_› ?_ | with_reducible refine Ret.neg ‹_› ?_ | with_reducible refine Ret.neg (Int.lt_irrefl _) ?_ | with_reducible refine Ret.ite (fun _ => ?_) (fun _ => ?_) | with_reducible refine Ret.idx ?_ ?_ ?_ | with_reducible refine Ret.chk ?_ ?_ | with_reducible refine hn3 ?_ | with_reducible refine hn2 ?_ | with_reducible refine hn1 ?_ | with_reducible refine hn3 _ ?_ | with_reducible refine hn2 _ ?_ | with_reducible refine hn1 _ ?_ | with_reducible refine Ret.some ?_))
    all_goals (try ((fail_if_success (with_reducible refine Ret.probe ?_)); grind))
    refine Ret.all (c.From.length : Int) (fun f => ∀ g h, 0 ≤ g → g < (c.From.length : Int) → 0 ≤ h → h < (c.From.length : Int) → el c.To f = el c.From g → el c.To g = el c.From h → cmp c (cmp c f g) h = cmp c f (cmp c g h)) (by omega) (by omega) ?_ ?_
    · intro f next hf0 hf1 hp hn1
      (repeat' (first | with_reducible refine Ret.pos ‹_› ?_ | with_reducible refine Ret.neg ‹_› ?_ | with_reducible refine Ret.neg (Int.lt_irrefl _) ?_ | with_reducible refine Ret.ite (fun _ => ?_) (fun _ => ?_) | with_reducible refine Ret.idx ?_ ?_ ?_ | with_reducible refine Ret.chk ?_ ?_ | with_reducible refine hn3 ?_ | with_reducible refine hn2 ?_ | with_reducible refine hn1 ?_ | with_reducible refine hn3 _ ?_ | with_reducible refine hn2 _ ?_ | with_reducible refine hn1 _ ?_ | with_reducible refine Ret.some ?_))
      all_goals (try ((fail_if_success (with_reducible refine Ret.probe ?_)); grind))
      refine Ret.all (c.From.length : Int) (fun g => ∀ h, 0 ≤ h → h < (c.From.length : Int) → el c.To f = el c.From g → el c.To g = el c.From h → cmp c (cmp c f g) h = cmp c f (cmp c g h)) (by omega) (by omega) ?_ ?_
      · intro g next hg0 hg1 hp2 hn2
        (repeat' (first | with_reducible refine Ret.pos ‹_› ?_ | with_reducible refine Ret.neg ‹_› ?_ | with_reducible refine Ret.neg (Int.lt_irrefl _) ?_ | with_reducible refine Ret.ite (fun _ => ?_) (fun _ => ?_) | with_reducible refine Ret.idx ?_ ?_ ?_ | with_reducible refine Ret.chk ?_ ?_ | with_reducible refine hn3 ?_ | with_reducible refine hn2 ?_ | with_reducible refine hn1 ?_ | with_reducible refine hn3 _ ?_ | with_reducible refine hn2 _ ?_ | with_reducible refine hn1 _ ?_ | with_reducible refine Ret.some ?_))
        all_goals (try ((fail_if_success (with_reducible refine Ret.probe ?_)); grind))
        refine Ret.all (c.From.length : Int) (fun h => el c.To f = el c.From g → el c.To g = el c.From h → cmp c (cmp c f g) h = cmp c f (cmp c g h)) (by omega) (by omega) ?_ ?_
        · intro h next hh0 hh1 hp3 hn3
          have hno : ¬ (el c.To f = el c.From g → el c.To g = el c.From h → cmp c (cmp c f g) h = cmp c f (cmp c g h)) → ¬ NoFault c := fun hx hN => hx (hN.2 f g h hf0 hf1 hg0 hg1 hh0 hh1)
          (repeat' (first | with_reducible refine Ret.pos ‹_› ?_ | with_reducible refine Ret.neg ‹_› ?_ | with_reducible refine Ret.neg (Int.lt_irrefl _) ?_ | with_reducible refine Ret.ite (fun _ => ?_) (fun _ => ?_) | with_reducible refine Ret.idx ?_ ?_ ?_ | with_reducible refine Ret.chk ?_ ?_ | with_reducible refine hn3 ?_ | with_reducible refine hn2 ?_ | with_reducible refine hn1 ?_ | with_reducible refine hn3 _ ?_ | with_reducible refine hn2 _ ?_ | with_reducible refine hn1 _ ?_ | with_reducible refine Ret.some ?_))
          all_goals (try ((fail_if_success (with_reducible refine Ret.probe ?_)); grind))
        · intro next hp3
          (repeat' (first | with_reducible refine Ret.pos ‹_› ?_ | with_reducible refine Ret.neg ‹_› ?_ | with_reducible refine Ret.neg (Int.lt_irrefl _) ?_ | with_reducible refine Ret.ite (fun _ => ?_) (fun _ => ?_) | with_reducible refine Ret.idx ?_ ?_ ?_ | with_reducible refine Ret.chk ?_ ?_ | with_reducible refine hn3 ?_ | with_reducible refine hn2 ?_ | with_reducible refine hn1 ?_ | with_reducible refine hn3 _ ?_ | with_reducible refine hn2 _ ?_ | with_reducible refine hn1 _ ?_ | with_reducible refine Ret.some ?_))
          all_goals (try ((fail_if_success (with_reducible refine Ret.probe ?_)); grind))
      · intro next hp2
        (repeat' (first | with_reducible refine Ret.pos ‹_› ?_ | with_reducible refine Ret.neg ‹_› ?_ | with_reducible refine Ret.neg (Int.lt_irrefl _) ?_ | with_reducible refine Ret.ite (fun _ => ?_) (fun _ => ?_) | with_reducible refine Ret.idx ?_ ?_ ?_ | with_reducible refine Ret.chk ?_ ?_ | with_reducible refine hn3 ?_ | with_reducible refine hn2 ?_ | with_reducible refine hn1 ?_ | with_reducible refine hn3 _ ?_ | with_reducible refine hn2 _ ?_ | with_reducible refine hn1 _ ?_ | with_reducible refine Ret.some ?_))
        all_goals (try ((fail_if_success (with_reducible refine Ret.probe ?_)); grind))
    · intro next hp
      (repeat' (first | with_reducible refine Ret.pos ‹_› ?_ | with_reducible refine Ret.neg ‹_› ?_ | with_reducible refine Ret.neg (Int.lt_irrefl _) ?_ | with_reducible refine Ret.ite (fun _ => ?_) (fun _ => ?_) | with_reducible refine Ret.idx ?_ ?_ ?_ | with_reducible refine Ret.chk ?_ ?_ | with_reducible refine hn3 ?_ | with_reducible refine hn2 ?_ | with_reducible refine hn1 ?_ | with_reducible refine hn3 _ ?_ | with_reducible refine hn2 _ ?_ | with_reducible refine hn1 _ ?_ | with_reducible refine Ret.some ?_))
      exact ⟨fun _ => ⟨hpI, fun f g h a1 a2 a3 a4 a5 a6 => hp f a1 a2 g h a3 a4 a5 a6⟩, fun _ => rfl⟩

theorem fault_r {c : XCategory} (h : Shp c) : Ret (M.impl_Category_fault c) fun r => r.1 = 0 ↔ NoFault c := by
  obtain ⟨h1, h2, h3, h4, h5, h6, h7, h8, h9, h10, h11, h12, h13, h14, h15, h16⟩ := h
  unfold M.impl_Category_fault M.impl_Category_arrows
  simp only [decide_eq_true_eq, bne_iff_ne, ne_eq, Option.bind_some]
  refine Ret.all (c.From.length : Int) (fun f => cmp c (el c.Identity (el c.From f)) f = f ∧ cmp c f (el c.Identity (el c.To f)) = f) (by omega) (by omega) ?_ ?_
  · intro i next hi0 hi1 hp hn1
    have := h7 i hi0 hi1
    have := h8 i hi0 hi1
    have hno : ¬ (cmp c (el c.Identity (el c.From i)) i = i ∧ cmp c i (el c.Identity (el c.To i)) = i) → ¬ NoFault c := fun hx hN => hx (hN.1 i hi0 hi1)
    (repeat' (first | with_reducible refine Ret.pos ‹_› ?_ | with_reducible refine Ret.neg ‹_› ?_ | with_reducible refine Ret.neg (Int.lt_irrefl _) ?_ | with_reducible refine Ret.ite (fun _ => ?_) (fun _ => ?_) | with_reducible refine Ret.idx ?_ ?_ ?_ | with_reducible refine Ret.chk ?_ ?_ | with_reducible refine hn3 ?_ | with_reducible refine hn2 ?_ | with_reducible refine hn1 ?_ | with_reducible refine hn3 _ ?_ | with_reducible refine hn2 _ ?_ | with_reducible refine hn1 _ ?_ | with_reducible refine Ret.call (then_eq ?_ ?_ ?_ ?_) ?_ | with_reducible refine Ret.some ?_))
    all_goals (try ((fail_if_success (with_reducible refine Ret.probe ?_)); grind))
  · intro next hpI
    (repeat' (first | with_reducible refine Ret.pos ‹_› ?_ | with_reducible refine Ret.neg ‹_› ?_ | with_reducible refine Ret.neg (Int.lt_irrefl _) ?_ | with_reducible refine Ret.ite (fun _ => ?_) (fun _ => ?_) | with_reducible refine Ret.idx ?_ ?_ ?_ | with_reducible refine Ret.chk ?_ ?_ | with_reducible refine hn3 ?_ | with_reducible refine hn2 ?_ | with_reducible refine hn1 ?_ | with_reducible refine hn3 _ ?_ | with_reducible refine hn2 _ ?_ | with_reducible refine hn1 _ ?_ | with_reducible refine Ret.some ?_))
    all_goals (try ((fail_if_success (with_reducible refine Ret.probe ?_)); grind))
    refine Ret.all (c.From.length : Int) (fun f => ∀ g h, 0 ≤ g → g < (c.From.length : Int) → 0 ≤ h → h < (c.From.length : Int) → el c.To f = el c.From g → el c.To g = el c.From h → cmp c (cmp c f g) h = cmp c f (cmp c g h)) (by omega) (by omega) ?_ ?_
    · intro f next hf0 hf1 hp hn1
      (repeat' (first | with_reducible refine Ret.pos ‹_› ?_ | with_reducible refine Ret.neg ‹_› ?_ | with_reducible refine Ret.neg (Int.lt_irrefl _) ?_ | with_reducible refine Ret.ite (fun _ => ?_) (fun _ => ?_) | with_reducible refine Ret.idx ?_ ?_ ?_ | with_reducible refine Ret.chk ?_ ?_ | with_reducible refine hn3 ?_ | with_reducible refine hn2 ?_ | with_reducible refine hn1 ?_ | with_reducible refine hn3 _ ?_ | with_reducible refine hn2 _ ?_ | with_reducible refine hn1 _ ?_ | with_reducible refine Ret.some ?_))
      all_goals (try ((fail_if_success (with_reducible refine Ret.probe ?_)); grind))
      refine Ret.all (c.From.length : Int) (fun g => ∀ h, 0 ≤ h → h < (c.From.length : Int) → el c.To f = el c.From g → el c.To g = el c.From h → cmp c (cmp c f g) h = cmp c f (cmp c g h)) (by omega) (by omega) ?_ ?_
      · intro g next hg0 hg1 hp2 hn2
        have := h13 f g hf0 hf1 hg0 hg1
        have := h14 f g hf0 hf1 hg0 hg1
        (repeat' (first | with_reducible refine Ret.pos ‹_› ?_ | with_reducible refine Ret.neg ‹_› ?_ | with_reducible refine Ret.neg (Int.lt_irrefl _) ?_ | with_reducible refine Ret.ite (fun _ => ?_) (fun _ => ?_) | with_reducible refine Ret.idx ?_ ?_ ?_ | with_reducible refine Ret.chk ?_ ?_ | with_reducible refine hn3 ?_ | with_reducible refine hn2 ?_ | with_reducible refine hn1 ?_ | with_reducible refine hn3 _ ?_ | with_reducible refine hn2 _ ?_ | with_reducible refine hn1 _ ?_ | with_reducible refine Ret.call (then_eq ?_ ?_ ?_ ?_) ?_ | with_reducible refine Ret.some ?_))
        all_goals (try ((fail_if_success (with_reducible refine Ret.probe ?_)); grind))
        refine Ret.all (c.From.length : Int) (fun h => el c.To f = el c.From g → el c.To g = el c.From h → cmp c (cmp c f g) h = cmp c f (cmp c g h)) (by omega) (by omega) ?_ ?_
        · intro h next hh0 hh1 hp3 hn3
          have := h13 g h hg0 hg1 hh0 hh1
          have := h14 g h hg0 hg1 hh0 hh1
          have hno : ¬ (el c.To f = el c.From g → el c.To g = el c.From h → cmp c (cmp c f g) h = cmp c f (cmp c g h)) → ¬ NoFault c := fun hx hN => hx (hN.2 f g h hf0 hf1 hg0 hg1 hh0 hh1)
          (repeat' (first | with_reducible refine Ret.pos ‹_› ?_ | with_reducible refine Ret.neg ‹_› ?_ | with_reducible refine Ret.neg (Int.lt_irrefl _) ?_ | with_reducible refine Ret.ite (fun _ => ?_) (fun _ => ?_) | with_reducible refine Ret.idx ?_ ?_ ?_ | with_reducible refine Ret.chk ?_ ?_ | with_reducible refine hn3 ?_ | with_reducible refine hn2 ?_ | with_reducible refine hn1 ?_ | with_reducible refine hn3 _ ?_ | with_reducible refine hn2 _ ?_ | with_reducible refine hn1 _ ?_ | with_reducible refine Ret.call (then_eq ?_ ?_ ?_ ?_) ?_ | with_reducible refine Ret.some ?_))
          all_goals (try ((fail_if_success (with_reducible refine Ret.probe ?_)); grind))
        · intro next hp3
          (repeat' (first | with_reducible refine Ret.pos ‹_› ?_ | with_reducible refine Ret.neg ‹_› ?_ | with_reducible refine Ret.neg (Int.lt_irrefl _) ?_ | with_reducible refine Ret.ite (fun _ => ?_) (fun _ => ?_) | with_reducible refine Ret.idx ?_ ?_ ?_ | with_reducible refine Ret.chk ?_ ?_ | with_reducible refine hn3 ?_ | with_reducible refine hn2 ?_ | with_reducible refine hn1 ?_ | with_reducible refine hn3 _ ?_ | with_reducible refine hn2 _ ?_ | with_reducible refine hn1 _ ?_ | with_reducible refine Ret.some ?_))
          all_goals (try ((fail_if_success (with_reducible refine Ret.probe ?_)); grind))
      · intro next hp2
        (repeat' (first | with_reducible refine Ret.pos ‹_› ?_ | with_reducible refine Ret.neg ‹_› ?_ | with_reducible refine Ret.neg (Int.lt_irrefl _) ?_ | with_reducible refine Ret.ite (fun _ => ?_) (fun _ => ?_) | with_reducible refine Ret.idx ?_ ?_ ?_ | with_reducible refine Ret.chk ?_ ?_ | with_reducible refine hn3 ?_ | with_reducible refine hn2 ?_ | with_reducible refine hn1 ?_ | with_reducible refine hn3 _ ?_ | with_reducible refine hn2 _ ?_ | with_reducible refine hn1 _ ?_ | with_reducible refine Ret.some ?_))
        all_goals (try ((fail_if_success (with_reducible refine Ret.probe ?_)); grind))
    · intro next hp
      (repeat' (first | with_reducible refine Ret.pos ‹_› ?_ | with_reducible refine Ret.neg ‹_› ?_ | with_reducible refine Ret.neg (Int.lt_irrefl _) ?_ | with_reducible refine Ret.ite (fun _ => ?_) (fun _ => ?_) | with_reducible refine Ret.idx ?_ ?_ ?_ | with_reducible refine Ret.chk ?_ ?_ | with_reducible refine hn3 ?_ | with_reducible refine hn2 ?_ | with_reducible refine hn1 ?_ | with_reducible refine hn3 _ ?_ | with_reducible refine hn2 _ ?_ | with_reducible refine hn1 _ ?_ | with_reducible refine Ret.some ?_))
      exact ⟨fun _ => ⟨hpI, fun f g h a1 a2 a3 a4 a5 a6 => hp f a1 a2 g h a3 a4 a5 a6⟩, fun _ => rfl⟩

def IsCat (c : XCategory) : Prop := Shape c ∧ NoFault c

theorem l02Is_eq {c : XCategory} (h : SmallC c) : M.spec_l02Is c = some (decide (IsCat c)) := by
  apply Ret.ask
  unfold M.spec_l02Is
  refine Ret.call (IsShape_eq h) ?_
  simp only [decide_eq_true_eq]
  refine Ret.ite (fun hs => ?_) (fun hs => ?_)
  · refine Ret.bind (l02Fault_r hs.shp) fun r hr => Ret.some ?_
    rw [beq_iff_eq, hr]
    exact ⟨fun x => ⟨hs, x⟩, fun x => x.2⟩
  · refine Ret.some ?_
    simp only [Bool.false_eq_true, false_iff]
    exact fun x => hs x.1

theorem isCategory_eq {c : XCategory} (h : SmallC c) : M.impl_Category_isCategory c = some (decide (IsCat c)) := by
  apply Ret.ask
  unfold M.impl_Category_isCategory
  refine Ret.call (isShape_eq h) ?_
  simp only [decide_eq_true_eq]
  refine Ret.ite (fun hs => ?_) (fun hs => ?_)
  · refine Ret.bind (fault_r hs.shp) fun r hr => Ret.some ?_
    rw [beq_iff_eq, hr]
    exact ⟨fun x => ⟨hs, x⟩, fun x => x.2⟩
  · refine Ret.some ?_
    simp only [Bool.false_eq_true, false_iff]
    exact fun x => hs x.1

end Go.Gx

/- Plain laws: functors. -/
namespace Go.Gx
open Classical
set_option maxHeartbeats 4000000

/-! ### functors -/

structure FunOk (f : XFunctor) : Prop where
  lo : (f.Objects.length : Int) = f.Source.Objects
  la : (f.Arrows.length : Int) = (f.Source.From.length : Int)
  ino : In f.Target.Objects f.Objects
  ina : In (f.Target.From.length : Int) f.Arrows
  afrom : ∀ a, 0 ≤ a → a < (f.Source.From.length : Int) → el f.Target.From (el f.Arrows a) = el f.Objects (el f.Source.From a)
  ato : ∀ a, 0 ≤ a → a < (f.Source.From.length : Int) → el f.Target.To (el f.Arrows a) = el f.Objects (el f.Source.To a)
  aid : ∀ x, 0 ≤ x → x < f.Source.Objects → el f.Arrows (el f.Source.Identity x) = el f.Target.Identity (el f.Objects x)
  acmp : ∀ a b, 0 ≤ a → a < (f.Source.From.length : Int) → 0 ≤ b → b < (f.Source.From.length : Int) → el f.Source.To a = el f.Source.From b →
    el f.Arrows (cmp f.Source a b) = cmp f.Target (el f.Arrows a) (el f.Arrows b)

def IsFun (f : XFunctor) : Prop := IsCat f.Source ∧ IsCat f.Target ∧ FunOk f

end Go.Gx

/- Plain laws: what is marked is held. -/
namespace Go.Gx
set_option maxHeartbeats 1000000

theorem fitsC {c : XCategory} (h : R.XCategory c) : FitsC c := ⟨h.2.1.1, h.2.2.1.1, h.2.2.2.1.1, h.2.2.2.2.1, fun r hr => (h.2.2.2.2.2 r hr).1⟩
def zeroF : XFunctor := ⟨⟨0, [], [], [], []⟩, ⟨0, [], [], [], []⟩, [], []⟩
theorem zeroC_small : SmallC ⟨0, [], [], [], []⟩ := ⟨by simp, by simp, by simp, by simp, by simp⟩
theorem zeroF_small : SmallF zeroF := ⟨zeroC_small, zeroC_small, by simp [zeroF], by simp [zeroF]⟩

theorem mark_S {l : List Int} (h : Small l) {k : Int} (h0 : 0 ≤ k) (h1 : k ≤ 4611686018427387904) : M.laws_markInt64S l k = some (k + (l.length : Int), tab (l.length : Int) fun i => k + i) := by
  apply Ret.eq
  unfold M.laws_markInt64S
  refine Ret.loop (l.length : Int) (fun i s => s = (tab (l.length : Int) fun j => if j < i then k + j else el l j, k + i, i)) (by omega) (by omega) ?_ ?_ ?_
  · refine Prod.ext ?_ (Prod.ext ?_ rfl)
    · conv => lhs; rw [← tab_el l]
      dsimp only; apply tab_congr; intro j j0 j1; rw [if_neg (by omega)]
    · show k = k + 0
      omega
  · rintro i s next hi0 hi1 rfl hn
    dsimp only
    have e1 : (((l.length : Int).toNat : Nat) : Int) = (l.length : Int) := by omega
    simp only [decide_eq_true_eq, tab_length, e1]
    rw [if_pos hi1]
    refine Ret.idx hi0 (by rw [tab_length]; omega) (hn _ ?_)
    rw [set_tab hi0, wrap_in (by omega) (by omega), wrap_in (by omega) (by omega)]
    refine Prod.ext ?_ (Prod.ext ?_ rfl)
    · dsimp only; apply tab_congr; intro j j0 j1
      by_cases hj : j = i
      · subst hj; rw [if_pos rfl, if_pos (by omega)]
      · rw [if_neg hj]
        by_cases hlt : j < i
        · rw [if_pos hlt, if_pos (by omega)]
        · rw [if_neg hlt, if_neg (by omega)]
    · show k + i + 1 = k + (i + 1)
      omega
  · rintro s next rfl
    dsimp only
    have e1 : (((l.length : Int).toNat : Nat) : Int) = (l.length : Int) := by omega
    simp only [decide_eq_true_eq, tab_length, e1]
    rw [if_neg (by omega)]
    refine Ret.some (Prod.ext rfl ?_)
    dsimp only; apply tab_congr; intro j j0 j1; rw [if_pos j1]

theorem held_S {n k : Int} (hn : 0 ≤ n) (hn2 : n ≤ 1048576) (h0 : 0 ≤ k) (h1 : k ≤ 4611686018427387904) : M.laws_heldInt64S (tab n fun i => k + i) k = some (k + n) := by
  apply Ret.eq
  unfold M.laws_heldInt64S
  have e1 : ((n.toNat : Nat) : Int) = n := by omega
  refine Ret.loop n (fun i s => s = (k + i, i)) (by omega) (by omega) ?_ ?_ ?_
  · exact Prod.ext (show k = k + 0 by omega) rfl
  · rintro i s next hi0 hi1 rfl hnx
    dsimp only
    simp only [decide_eq_true_eq, tab_length, e1]
    rw [if_pos hi1]
    refine Ret.idx hi0 (by rw [tab_length]; omega) ?_
    rw [el_tab hi0 hi1]
    simp only [bne_self_eq_false, Bool.false_eq_true, if_false]
    refine hnx _ ?_
    rw [wrap_in (by omega) (by omega), wrap_in (by omega) (by omega)]
    exact Prod.ext (show k + i + 1 = k + (i + 1) by omega) rfl
  · rintro s next rfl
    dsimp only
    simp only [decide_eq_true_eq, tab_length, e1]
    rw [if_neg (by omega)]
    exact Ret.some rfl

/-- How much is marked before row i. -/
def offs (l : List (List Int)) (i : Int) : Int := ((l.take i.toNat).map fun r => (r.length : Int)).sum
theorem offs_succ {l : List (List Int)} {i : Int} (h0 : 0 ≤ i) (h1 : i < (l.length : Int)) : offs l (i + 1) = offs l i + ((el l i).length : Int) := by
  unfold offs
  rw [take_succ_el h0 h1, List.map_append, List.sum_append]
  simp
theorem sum_le : ∀ m : List (List Int), (∀ r ∈ m, Small r) → 0 ≤ (m.map fun r => (r.length : Int)).sum ∧ (m.map fun r => (r.length : Int)).sum ≤ (m.length : Int) * 1048576
  | [], _ => by simp
  | r :: m, h => by
    have h1 := sum_le m fun x hx => h x (by simp [hx])
    have h2 := h r (by simp)
    simp only [List.map_cons, List.sum_cons, List.length_cons]
    omega
theorem offs_le {l : List (List Int)} (hr : ∀ r ∈ l, Small r) {i : Int} (h0 : 0 ≤ i) : 0 ≤ offs l i ∧ offs l i ≤ i * 1048576 := by
  have h1 := sum_le (l.take i.toNat) fun r hx => hr r (List.mem_of_mem_take hx)
  unfold offs
  have h2 : ((l.take i.toNat).length : Int) ≤ i := by rw [List.length_take]; omega
  omega

theorem mark_SS {l : List (List Int)} (h : Small l) (hr : ∀ r ∈ l, Small r) {k : Int} (h0 : 0 ≤ k) (h1 : k ≤ 2305843009213693952) :
    M.laws_markInt64SS l k = some (k + offs l (l.length : Int), tab (l.length : Int) fun j => tab ((el l j).length : Int) fun t => k + offs l j + t) := by
  apply Ret.eq
  unfold M.laws_markInt64SS
  refine Ret.loop (l.length : Int) (fun i s => s = (tab (l.length : Int) fun j => if j < i then (tab ((el l j).length : Int) fun t => k + offs l j + t) else el l j, k + offs l i, i)) (by omega) (by omega) ?_ ?_ ?_
  · refine Prod.ext ?_ (Prod.ext ?_ rfl)
    · conv => lhs; rw [← tab_el l]
      dsimp only; apply tab_congr; intro j j0 j1; rw [if_neg (by omega)]
    · show k = k + 0
      omega
  · rintro i s next hi0 hi1 rfl hn
    dsimp only
    have e1 : (((l.length : Int).toNat : Nat) : Int) = (l.length : Int) := by omega
    simp only [decide_eq_true_eq, tab_length, e1]
    rw [if_pos hi1]
    refine Ret.idx hi0 (by rw [tab_length]; omega) ?_
    rw [el_tab hi0 hi1, if_neg (by omega)]
    have ho := offs_le hr hi0
    refine Ret.call (mark_S (hr _ (el_mem hi0 hi1)) (by omega) (by omega)) (hn _ ?_)
    rw [set_tab hi0, wrap_in (by omega) (by omega)]
    refine Prod.ext ?_ (Prod.ext ?_ rfl)
    · dsimp only; apply tab_congr; intro j j0 j1
      by_cases hj : j = i
      · subst hj; rw [if_pos rfl, if_pos (by omega)]
      · rw [if_neg hj]
        by_cases hlt : j < i
        · rw [if_pos hlt, if_pos (by omega)]
        · rw [if_neg hlt, if_neg (by omega)]
    · show k + offs l i + ((el l i).length : Int) = k + offs l (i + 1)
      rw [offs_succ hi0 hi1]; omega
  · rintro s next rfl
    dsimp only
    have e1 : (((l.length : Int).toNat : Nat) : Int) = (l.length : Int) := by omega
    simp only [decide_eq_true_eq, tab_length, e1]
    rw [if_neg (by omega)]
    refine Ret.some (Prod.ext rfl ?_)
    dsimp only; apply tab_congr; intro j j0 j1; rw [if_pos j1]

theorem held_SS {l : List (List Int)} (h : Small l) (hr : ∀ r ∈ l, Small r) {k : Int} (h0 : 0 ≤ k) (h1 : k ≤ 2305843009213693952) :
    M.laws_heldInt64SS (tab (l.length : Int) fun j => tab ((el l j).length : Int) fun t => k + offs l j + t) k = some (k + offs l (l.length : Int)) := by
  apply Ret.eq
  unfold M.laws_heldInt64SS
  have e1 : (((l.length : Int).toNat : Nat) : Int) = (l.length : Int) := by omega
  refine Ret.loop (l.length : Int) (fun i s => s = (k + offs l i, i)) (by omega) (by omega) ?_ ?_ ?_
  · exact Prod.ext (show k = k + 0 by omega) rfl
  · rintro i s next hi0 hi1 rfl hnx
    dsimp only
    simp only [decide_eq_true_eq, tab_length, e1]
    rw [if_pos hi1]
    refine Ret.idx hi0 (by rw [tab_length]; omega) ?_
    rw [el_tab hi0 hi1]
    have ho := offs_le hr hi0
    have hs := hr _ (el_mem hi0 hi1)
    refine Ret.call (held_S (by omega) (by omega) (by omega) (by omega)) ?_
    rw [if_neg (by omega)]
    refine hnx _ ?_
    rw [wrap_in (by omega) (by omega)]
    refine Prod.ext ?_ rfl
    show k + offs l i + ((el l i).length : Int) = k + offs l (i + 1)
    rw [offs_succ hi0 hi1]; omega
  · rintro s next rfl
    dsimp only
    simp only [decide_eq_true_eq, tab_length, e1]
    rw [if_neg (by omega)]
    exact Ret.some rfl

/-- What is marked from k on is held, and counts alike; at most N marks. -/
def MH {α : Type} (N : Int) (mark : α → Int → Option (Int × α)) (held : α → Int → Option Int) (keep : α → α → Prop) (x : α) : Prop :=
  ∀ k, 0 ≤ k → k + N ≤ 2305843009213693952 → ∃ n x', 0 ≤ n ∧ n ≤ N ∧ mark x k = some (k + n, x') ∧ held x' k = some (k + n) ∧ keep x x'

theorem mh_S {l : List Int} (h : Small l) : MH 1048576 M.laws_markInt64S M.laws_heldInt64S (fun _ _ => True) l := by
  intro k h0 h1
  exact ⟨_, _, by omega, h, mark_S h h0 (by omega), held_S (by omega) h h0 (by omega), trivial⟩

theorem mh_SS {l : List (List Int)} (h : Small l) (hr : ∀ r ∈ l, Small r) : MH 1099511627776 M.laws_markInt64SS M.laws_heldInt64SS (fun _ _ => True) l := by
  intro k h0 h1
  have ho := offs_le hr (i := (l.length : Int)) (by omega)
  exact ⟨_, _, ho.1, by omega, mark_SS h hr h0 (by omega), held_SS h hr h0 (by omega), trivial⟩

theorem mh_C {c : XCategory} (h : SmallC c) : MH 1099514773504 M.laws_markCategory M.laws_heldCategory (fun x y => y.Objects = x.Objects) c := by
  intro k h0 h1
  obtain ⟨n1, l1, a1, b1, e1, f1, _⟩ := mh_S h.s1 k h0 (by omega)
  obtain ⟨n2, l2, a2, b2, e2, f2, _⟩ := mh_S h.s2 (k + n1) (by omega) (by omega)
  obtain ⟨n3, l3, a3, b3, e3, f3, _⟩ := mh_S h.s3 (k + n1 + n2) (by omega) (by omega)
  obtain ⟨n4, l4, a4, b4, e4, f4, _⟩ := mh_SS h.s4 h.s5 (k + n1 + n2 + n3) (by omega) (by omega)
  refine ⟨n1 + n2 + n3 + n4, ⟨c.Objects, l1, l2, l3, l4⟩, by omega, by omega, ?_, ?_, rfl⟩
  · unfold M.laws_markCategory
    simp only [e1, e2, e3, e4, Option.bind_some, Option.some.injEq, Prod.mk.injEq, and_true]
    omega
  · unfold M.laws_heldCategory
    simp only [f1, f2, f3, f4, Option.bind_some, decide_eq_true_eq]
    rw [if_neg (by omega), if_neg (by omega), if_neg (by omega), if_neg (by omega)]
    simp only [Option.some.injEq]; omega

theorem mh_F {f : XFunctor} (h : SmallF f) : MH 2199031644160 M.laws_markFunctor M.laws_heldFunctor (fun x y => y.Source.Objects = x.Source.Objects ∧ y.Target.Objects = x.Target.Objects) f := by
  intro k h0 h1
  obtain ⟨n1, l1, a1, b1, e1, f1, g1⟩ := mh_C h.s1 k h0 (by omega)
  obtain ⟨n2, l2, a2, b2, e2, f2, g2⟩ := mh_C h.s2 (k + n1) (by omega) (by omega)
  obtain ⟨n3, l3, a3, b3, e3, f3, _⟩ := mh_S h.s3 (k + n1 + n2) (by omega) (by omega)
  obtain ⟨n4, l4, a4, b4, e4, f4, _⟩ := mh_S h.s4 (k + n1 + n2 + n3) (by omega) (by omega)
  refine ⟨n1 + n2 + n3 + n4, ⟨l1, l2, l3, l4⟩, by omega, by omega, ?_, ?_, g1, g2⟩
  · unfold M.laws_markFunctor
    simp only [e1, e2, e3, e4, Option.bind_some, Option.some.injEq, Prod.mk.injEq]
    refine ⟨by omega, ?_⟩
    rw [← g1, ← g2]
  · unfold M.laws_heldFunctor
    simp only [f1, f2, f3, f4, Option.bind_some, decide_eq_true_eq]
    rw [if_neg (by omega), if_neg (by omega), if_neg (by omega), if_neg (by omega)]
    simp only [Option.some.injEq]; omega

end Go.Gx

/- Plain laws: the first numbers, the identity functor. -/
namespace Go.Gx
open Classical
set_option maxHeartbeats 2000000

end Go.Gx

/- Plain laws: set functors. -/
namespace Go.Gx
open Classical
set_option maxHeartbeats 4000000

structure SmallG (F : XSetFunctor) : Prop where
  s1 : SmallC F.Shape
  s2 : Small F.Sizes
  s3 : Small F.Actions
  s4 : ∀ r ∈ F.Actions, Small r
structure FitsG (F : XSetFunctor) : Prop where
  f1 : FitsC F.Shape
  f2 : Fits F.Sizes
  f3 : Fits F.Actions
  f4 : ∀ r ∈ F.Actions, Fits r
theorem fitsG {F : XSetFunctor} (h : R.XSetFunctor F) : FitsG F := ⟨fitsC h.1, h.2.1.1, h.2.2.1, fun r hr => (h.2.2.2 r hr).1⟩

theorem szSetFunctor_r {F : XSetFunctor} {n : Int} (h0 : 0 ≤ n) (h1 : n ≤ 1048576) (h : FitsG F) :
    Ret (M.laws_szSetFunctor F n) fun r => (r < 0 ∧ r = -1) ∨ (0 ≤ r ∧ r ≤ n ∧ SmallG F) := by
  obtain ⟨g1, g2, g3, g4⟩ := h
  unfold M.laws_szSetFunctor
  simp only [decide_eq_true_eq]
  (repeat' (first | with_reducible refine Ret.pos ‹_› ?_ | with_reducible refine Ret.neg ‹_› ?_ | with_reducible refine Ret.neg (Int.lt_irrefl _) ?_ | with_reducible refine Ret.ite (fun _ => ?_) (fun _ => ?_) | with_reducible refine Ret.idx ?_ ?_ ?_ | with_reducible refine Ret.chk ?_ ?_ | with_reducible refine hn3 ?_ | with_reducible refine hn2 ?_ | with_reducible refine hn1 ?_ | with_reducible refine hn3 _ ?_ | with_reducible refine hn2 _ ?_ | with_reducible refine hn1 _ ?_ | with_reducible refine Ret.bind (szInt64S_r ?_ ?_ ?_) fun v hv => ?_ | with_reducible refine Ret.bind (szInt64SS_r ?_ ?_ ?_ ?_) fun v hv => ?_ | with_reducible refine Ret.bind (szCategory_r ?_ ?_ ?_) fun v hv => ?_ | with_reducible refine Ret.some ?_))
  all_goals first | assumption | omega | (refine Or.inl ⟨by omega, rfl⟩) | (refine Or.inr ⟨by omega, by omega, ⟨?_, ?_, ?_, ?_⟩⟩ <;> grind)

theorem toSetFunctor_eq {F : XSetFunctor} (h : SmallG F) : M.laws_toSetFunctor F = some F := by
  unfold M.laws_toSetFunctor
  rw [toCategory_eq h.s1, toInt64S_eq h.s2, toInt64SS_eq h.s3 h.s4]; rfl
theorem eqSetFunctor_refl {F : XSetFunctor} (h : SmallG F) : M.laws_eqSetFunctor F F = some true := by
  unfold M.laws_eqSetFunctor
  rw [eqCategory_refl h.s1, eqInt64S_refl h.s2, eqInt64SS_refl h.s3 h.s4]; simp

theorem mh_G {F : XSetFunctor} (h : SmallG F) : MH 2199028498432 M.laws_markSetFunctor M.laws_heldSetFunctor (fun x y => y.Shape.Objects = x.Shape.Objects) F := by
  intro k h0 h1
  obtain ⟨n1, l1, a1, b1, e1, f1, g1⟩ := mh_C h.s1 k h0 (by omega)
  obtain ⟨n2, l2, a2, b2, e2, f2, _⟩ := mh_S h.s2 (k + n1) (by omega) (by omega)
  obtain ⟨n3, l3, a3, b3, e3, f3, _⟩ := mh_SS h.s3 h.s4 (k + n1 + n2) (by omega) (by omega)
  refine ⟨n1 + n2 + n3, ⟨l1, l2, l3⟩, by omega, by omega, ?_, ?_, g1⟩
  · unfold M.laws_markSetFunctor
    simp only [e1, e2, e3, Option.bind_some, Option.some.injEq, Prod.mk.injEq]
    refine ⟨by omega, ?_⟩
    rw [← g1]
  · unfold M.laws_heldSetFunctor
    simp only [f1, f2, f3, Option.bind_some, decide_eq_true_eq]
    rw [if_neg (by omega), if_neg (by omega), if_neg (by omega)]
    simp only [Option.some.injEq]; omega

/-! ### which are set functors -/
def ActOk (F : XSetFunctor) (a : Int) : Prop := ((el F.Actions a).length : Int) = el F.Sizes (el F.Shape.From a) ∧ In (el F.Sizes (el F.Shape.To a)) (el F.Actions a)
structure ShpG (F : XSetFunctor) : Prop where
  cat : IsCat F.Shape
  ls : (F.Sizes.length : Int) = F.Shape.Objects
  la : (F.Actions.length : Int) = (F.Shape.From.length : Int)
  siz : ∀ i, 0 ≤ i → i < (F.Sizes.length : Int) → 0 ≤ el F.Sizes i ∧ el F.Sizes i ≤ 16
  act : ∀ a, 0 ≤ a → a < (F.Actions.length : Int) → ActOk F a

theorem l19Shape_eq {F : XSetFunctor} (h : SmallG F) : M.spec_l19Shape F = some (decide (ShpG F)) := by
  apply Ret.ask
  unfold M.spec_l19Shape
  simp only [bne_iff_ne, ne_eq]
  refine Ret.call (l02Is_eq h.s1) (Ret.ite (fun h1 => ?_) (fun h1 => Ret.some ⟨(fun h => by cases h), fun e => absurd (decide_eq_true e.cat) h1⟩))
  have h1 := of_decide_eq_true h1
  have hS := h1.1.shp
  have m40 := hS.m40
  refine Ret.ite (fun h2 => Ret.some ⟨(fun h => by cases h), fun e => absurd e.ls h2⟩) (fun h2 => ?_)
  refine Ret.ite (fun h3 => Ret.some ⟨(fun h => by cases h), fun e => absurd e.la h3⟩) (fun h3 => ?_)
  have h2 := Decidable.not_not.1 h2
  have h3 := Decidable.not_not.1 h3
  have n8 := hS.n8
  refine Ret.all (F.Sizes.length : Int) (fun i => 0 ≤ el F.Sizes i ∧ el F.Sizes i ≤ 16) (by omega) (by omega) ?_ ?_
  · intro i next hi0 hi1 hp hn1
    rw [if_pos (decide_eq_true hi1)]
    refine Ret.idx hi0 hi1 (Ret.call (l01In_eq _ _ _) (Ret.ite (fun hb => hn1 (by simpa using hb)) (fun hb => Ret.some ⟨(fun h => by cases h), fun e => absurd (by simpa using e.siz i hi0 hi1) hb⟩)))
  · intro next hp1
    rw [if_neg (by simp)]
    refine Ret.all (F.Actions.length : Int) (fun a => ActOk F a) (by omega) (by omega) ?_ ?_
    · intro a next ha0 ha1 hp hn1
      rw [if_pos (decide_eq_true ha1)]
      have x1 := hS.from_in a ha0 (by omega)
      have x2 := hS.to_in a ha0 (by omega)
      have lt := hS.lto
      refine Ret.idx ha0 ha1 (Ret.idx ha0 (by omega) (Ret.idx x1.1 (by omega) (Ret.ite (fun hb => Ret.some ⟨(fun h => by cases h), fun e => absurd (e.act a ha0 ha1).1 hb⟩) (fun hb => ?_))))
      refine Ret.idx ha0 (by omega) (Ret.idx x2.1 (by omega) (Ret.call (l01Map_eq (h.s4 _ (el_mem ha0 ha1))) (Ret.ite (fun hc => hn1 ⟨Decidable.not_not.1 hb, of_decide_eq_true hc⟩) (fun hc => Ret.some ⟨(fun h => by cases h), fun e => absurd (decide_eq_true (e.act a ha0 ha1).2) hc⟩))))
    · intro next hp
      rw [if_neg (by simp)]
      exact Ret.some ⟨fun _ => ⟨h1, h2, h3, hp1, hp⟩, fun _ => rfl⟩

theorem isMapOf_eq {l : List Int} {n m : Int} (h : Small l) (h0 : -4611686018427387904 ≤ m) (h1 : m ≤ 4611686018427387904) : M.impl_isMapOf l n m = some (decide ((l.length : Int) = n ∧ In m l)) := by
  apply Ret.ask
  unfold M.impl_isMapOf
  simp only [beq_iff_eq]
  refine Ret.ite (fun he => Ret.call (within_eq h h0 h1) (Ret.some ?_)) (fun he => Ret.some ⟨(fun h => by cases h), fun e => absurd e.1 he⟩)
  rw [decide_eq_true_iff]
  exact ⟨fun x => ⟨he, x⟩, fun x => x.2⟩

theorem isShapeG_eq {F : XSetFunctor} (h : SmallG F) : M.impl_SetFunctor_isShape F = some (decide (ShpG F)) := by
  apply Ret.ask
  unfold M.impl_SetFunctor_isShape M.impl_Category_arrows
  simp only [bne_iff_ne, ne_eq, Option.bind_some]
  refine Ret.call (isCategory_eq h.s1) (Ret.ite (fun h1 => ?_) (fun h1 => Ret.some ⟨(fun h => by cases h), fun e => absurd (decide_eq_true e.cat) h1⟩))
  have h1 := of_decide_eq_true h1
  have hS := h1.1.shp
  have m40 := hS.m40
  have n8 := hS.n8
  refine Ret.ite (fun h2 => Ret.some ⟨(fun h => by cases h), fun e => absurd e.ls h2⟩) (fun h2 => ?_)
  have h2 := Decidable.not_not.1 h2
  refine Ret.call (within_eq h.s2 (by omega) (by omega)) (Ret.ite (fun h4 => ?_) (fun h4 => Ret.some ⟨(fun h => by cases h), fun e => absurd (decide_eq_true (fun i i0 i1 => by have := e.siz i i0 i1; omega)) h4⟩))
  have h4 := of_decide_eq_true h4
  refine Ret.ite (fun h3 => Ret.some ⟨(fun h => by cases h), fun e => absurd e.la h3⟩) (fun h3 => ?_)
  have h3 := Decidable.not_not.1 h3
  have hp1 : ∀ i, 0 ≤ i → i < (F.Sizes.length : Int) → 0 ≤ el F.Sizes i ∧ el F.Sizes i ≤ 16 := fun i i0 i1 => by have := h4 i i0 i1; omega
  refine Ret.all (F.Actions.length : Int) (fun a => ActOk F a) (by omega) (by omega) ?_ ?_
  · intro a next ha0 ha1 hp hn1
    rw [if_pos (decide_eq_true ha1)]
    have x1 := hS.from_in a ha0 (by omega)
    have x2 := hS.to_in a ha0 (by omega)
    have lt := hS.lto
    have z := hp1 _ x2.1 (by omega)
    refine Ret.idx ha0 ha1 (Ret.idx ha0 (by omega) (Ret.idx x1.1 (by omega) (Ret.idx ha0 (by omega) (Ret.idx x2.1 (by omega) (Ret.call (isMapOf_eq (h.s4 _ (el_mem ha0 ha1)) (by omega) (by omega)) (Ret.ite (fun hc => hn1 (show ActOk F a from of_decide_eq_true (p := ((el F.Actions a).length : Int) = el F.Sizes (el F.Shape.From a) ∧ In (el F.Sizes (el F.Shape.To a)) (el F.Actions a)) hc)) (fun hc => Ret.some ⟨(fun h => by cases h), fun e => absurd (e.act a ha0 ha1) (fun x => hc (decide_eq_true x))⟩)))))))
  · intro next hp
    rw [if_neg (by simp)]
    exact Ret.some ⟨fun _ => ⟨h1, h2, h3, hp1, hp⟩, fun _ => rfl⟩

/-- The image of e under the action of a. -/
abbrev act (F : XSetFunctor) (a e : Int) : Int := el (el F.Actions a) e
def UnitG (F : XSetFunctor) : Prop := ∀ x, 0 ≤ x → x < F.Shape.Objects → ∀ e, 0 ≤ e → e < el F.Sizes x → act F (el F.Shape.Identity x) e = e
def CompG (F : XSetFunctor) : Prop := ∀ f, 0 ≤ f → f < (F.Shape.From.length : Int) → ∀ g, 0 ≤ g → g < (F.Shape.From.length : Int) → el F.Shape.To f = el F.Shape.From g →
  ∀ e, 0 ≤ e → e < el F.Sizes (el F.Shape.From f) → act F (cmp F.Shape f g) e = act F g (act F f e)

theorem l19Fault_r {F : XSetFunctor} (h : ShpG F) : Ret (M.spec_l19Fault F) fun r => r.1 = 0 ↔ UnitG F ∧ CompG F := by
  unfold M.spec_l19Fault
  obtain ⟨hc, ls, la, siz, hact⟩ := h
  have hS := hc.1.shp
  have m40 := hS.m40
  have n0 := hS.n0
  have n8 := hS.n8
  have lid := hS.lid
  have lto := hS.lto
  have lco := hS.lco
  simp only [decide_eq_true_eq, bne_iff_ne, ne_eq]
  refine Ret.all F.Shape.Objects (fun x => ∀ e, 0 ≤ e → e < el F.Sizes x → act F (el F.Shape.Identity x) e = e) n0 (by omega) ?_ ?_
  · intro x next x0 x1 hp hn1
    rw [if_pos x1]
    have z := siz x x0 (by omega)
    have i1 := hS.id_in x x0 x1
    have i2 := hS.id_from x x0 x1
    have i3 := (hact _ i1.1 (by omega)).1
    rw [i2] at i3
    refine Ret.all (el F.Sizes x) (fun e => act F (el F.Shape.Identity x) e = e) z.1 (by omega) ?_ ?_
    · intro e next e0 e1 hq hn2
      refine Ret.idx x0 (by omega) ?_
      rw [if_pos e1]
      refine Ret.idx x0 (by omega) (Ret.idx i1.1 (by omega) (Ret.idx e0 (by omega) (Ret.ite (fun hb => Ret.some ?_) (fun hb => hn2 (Decidable.not_not.1 hb)))))
      exact ⟨(fun h => by cases h), fun hN => absurd (hN.1 x x0 x1 e e0 e1) hb⟩
    · intro next hq
      refine Ret.idx x0 (by omega) ?_
      rw [if_neg (by omega)]
      exact hn1 hq
  · intro next hpU
    rw [if_neg (by omega)]
    refine Ret.all (F.Shape.From.length : Int) (fun f => ∀ g, 0 ≤ g → g < (F.Shape.From.length : Int) → el F.Shape.To f = el F.Shape.From g → ∀ e, 0 ≤ e → e < el F.Sizes (el F.Shape.From f) → act F (cmp F.Shape f g) e = act F g (act F f e)) (by omega) (by omega) ?_ ?_
    · intro f next f0 f1 hp hn1
      rw [if_pos f1]
      have x1 := hS.from_in f f0 f1
      have z1 := siz _ x1.1 (by omega)
      have a1 := hact f f0 (by omega)
      refine Ret.all (F.Shape.From.length : Int) (fun g => el F.Shape.To f = el F.Shape.From g → ∀ e, 0 ≤ e → e < el F.Sizes (el F.Shape.From f) → act F (cmp F.Shape f g) e = act F g (act F f e)) (by omega) (by omega) ?_ ?_
      · intro g next g0 g1 hq hn2
        rw [if_pos g1]
        have rw1 := hS.row f f0 f1
        have a2 := hact g g0 (by omega)
        refine Ret.idx f0 (by omega) (Ret.idx g0 g1 (Ret.ite (fun hne => hn2 (fun he => absurd he hne)) (fun hm => ?_)))
        have hm := Decidable.not_not.1 hm
        have c1 : 0 ≤ el (el F.Shape.Composites f) g ∧ el (el F.Shape.Composites f) g < (F.Shape.From.length : Int) := hS.yes f g f0 f1 g0 g1 hm
        have c2 : el F.Shape.From (el (el F.Shape.Composites f) g) = el F.Shape.From f := hS.cfrom f g f0 f1 g0 g1 hm
        have a3 := (hact _ c1.1 (by omega)).1
        rw [c2] at a3
        refine Ret.all (el F.Sizes (el F.Shape.From f)) (fun e => act F (cmp F.Shape f g) e = act F g (act F f e)) z1.1 (by omega) ?_ ?_
        · intro e next e0 e1 hr hn3
          have b1 : 0 ≤ el (el F.Actions f) e ∧ el (el F.Actions f) e < el F.Sizes (el F.Shape.To f) := a1.2 e e0 (by have := a1.1; omega)
          rw [hm] at b1
          have b2 := a2.1
          have a4 := a1.1
          refine Ret.idx f0 f1 (Ret.idx x1.1 (by omega) ?_)
          rw [if_pos e1]
          refine Ret.idx f0 (by omega) (Ret.idx g0 (by omega) (Ret.idx c1.1 (by omega) (Ret.idx e0 (by omega) (Ret.idx g0 (by omega) (Ret.idx f0 (by omega) (Ret.idx e0 (by omega) (Ret.idx b1.1 (by omega) (Ret.ite (fun hb => Ret.some ?_) (fun hb => hn3 (Decidable.not_not.1 hb))))))))))
          exact ⟨(fun h => by cases h), fun hN => absurd (hN.2 f f0 f1 g g0 g1 hm e e0 e1) hb⟩
        · intro next hr
          refine Ret.idx f0 f1 (Ret.idx x1.1 (by omega) ?_)
          rw [if_neg (by omega)]
          exact hn2 fun _ => hr
      · intro next hq
        rw [if_neg (by omega)]
        exact hn1 hq
    · intro next hp
      rw [if_neg (by omega)]
      exact Ret.some ⟨fun _ => ⟨hpU, hp⟩, fun _ => rfl⟩

theorem faultG_r {F : XSetFunctor} (h : ShpG F) : Ret (M.impl_SetFunctor_fault F) fun r => r.1 = 0 ↔ UnitG F ∧ CompG F := by
  unfold M.impl_SetFunctor_fault
  obtain ⟨hc, ls, la, siz, hact⟩ := h
  have hS := hc.1.shp
  have m40 := hS.m40
  have n0 := hS.n0
  have n8 := hS.n8
  have lid := hS.lid
  have lto := hS.lto
  have lco := hS.lco
  simp only [decide_eq_true_eq, bne_iff_ne, ne_eq]
  refine Ret.all (F.Shape.Identity.length : Int) (fun x => ∀ e, 0 ≤ e → e < el F.Sizes x → act F (el F.Shape.Identity x) e = e) (by omega) (by omega) ?_ ?_
  · intro x next x0 x1 hp hn1
    rw [if_pos x1]
    have z := siz x x0 (by omega)
    have i1 := hS.id_in x x0 (by omega)
    have i2 := hS.id_from x x0 (by omega)
    have i3 := (hact _ i1.1 (by omega)).1
    rw [i2] at i3
    refine Ret.idx x0 x1 (Ret.idx i1.1 (by omega) ?_)
    refine Ret.all ((el F.Actions (el F.Shape.Identity x)).length : Int) (fun e => act F (el F.Shape.Identity x) e = e) (by omega) (by omega) ?_ ?_
    · intro e next e0 e1 hq hn2
      rw [if_pos e1]
      refine Ret.idx e0 e1 (Ret.ite (fun hb => Ret.some ?_) (fun hb => hn2 (Decidable.not_not.1 hb)))
      exact ⟨(fun h => by cases h), fun hN => absurd (hN.1 x x0 (by omega) e e0 (by omega)) hb⟩
    · intro next hq
      rw [if_neg (by omega)]
      exact hn1 fun e e0 e1 => hq e e0 (by omega)
  · intro next hpU
    rw [if_neg (by omega)]
    refine Ret.all (F.Shape.Composites.length : Int) (fun f => ∀ g, 0 ≤ g → g < (F.Shape.From.length : Int) → el F.Shape.To f = el F.Shape.From g → ∀ e, 0 ≤ e → e < el F.Sizes (el F.Shape.From f) → act F (cmp F.Shape f g) e = act F g (act F f e)) (by omega) (by omega) ?_ ?_
    · intro f next f0 f1 hp hn1
      rw [if_pos f1]
      have f2 : f < (F.Shape.From.length : Int) := by omega
      have x1 := hS.from_in f f0 f2
      have z1 := siz _ x1.1 (by omega)
      have a1 := hact f f0 (by omega)
      have rw1 := hS.row f f0 f2
      refine Ret.idx f0 f1 ?_
      refine Ret.all ((el F.Shape.Composites f).length : Int) (fun g => el F.Shape.To f = el F.Shape.From g → ∀ e, 0 ≤ e → e < el F.Sizes (el F.Shape.From f) → act F (cmp F.Shape f g) e = act F g (act F f e)) (by omega) (by omega) ?_ ?_
      · intro g next g0 g1 hq hn2
        rw [if_pos g1]
        have g2 : g < (F.Shape.From.length : Int) := by omega
        have a2 := hact g g0 (by omega)
        refine Ret.idx g0 g1 (Ret.ite (fun hne => hn2 (fun he => ?_)) (fun hm0 => ?_))
        · have := (hS.yes f g f0 f2 g0 g2 he).1
          have hne : cmp F.Shape f g < 0 := hne
          omega
        have hm0 : ¬ cmp F.Shape f g < 0 := hm0
        have hm : el F.Shape.To f = el F.Shape.From g := by
          by_cases he : el F.Shape.To f = el F.Shape.From g
          · exact he
          · have := hS.no f g f0 f2 g0 g2 he
            omega
        have c1 : 0 ≤ el (el F.Shape.Composites f) g ∧ el (el F.Shape.Composites f) g < (F.Shape.From.length : Int) := hS.yes f g f0 f2 g0 g2 hm
        have c2 : el F.Shape.From (el (el F.Shape.Composites f) g) = el F.Shape.From f := hS.cfrom f g f0 f2 g0 g2 hm
        have a3 := (hact _ c1.1 (by omega)).1
        rw [c2] at a3
        have a4 := a1.1
        refine Ret.idx f0 (by omega) ?_
        refine Ret.all ((el F.Actions f).length : Int) (fun e => act F (cmp F.Shape f g) e = act F g (act F f e)) (by omega) (by omega) ?_ ?_
        · intro e next e0 e1 hr hn3
          rw [if_pos e1]
          have b1 : 0 ≤ el (el F.Actions f) e ∧ el (el F.Actions f) e < el F.Sizes (el F.Shape.To f) := a1.2 e e0 (by have := a1.1; omega)
          rw [hm] at b1
          have b2 := a2.1
          refine Ret.idx e0 e1 (Ret.idx c1.1 (by omega) (Ret.idx e0 (by omega) (Ret.idx g0 (by omega) (Ret.idx b1.1 (by omega) (Ret.ite (fun hb => Ret.some ?_) (fun hb => hn3 (Decidable.not_not.1 hb)))))))
          exact ⟨(fun h => by cases h), fun hN => absurd (hN.2 f f0 f2 g g0 g2 hm e e0 (by omega)) hb⟩
        · intro next hr
          rw [if_neg (by omega)]
          exact hn2 fun _ e e0 e1 => hr e e0 (by omega)
      · intro next hq
        rw [if_neg (by omega)]
        exact hn1 fun g g0 g1 => hq g g0 (by omega)
    · intro next hp
      rw [if_neg (by omega)]
      exact Ret.some ⟨fun _ => ⟨fun x x0 x1 => hpU x x0 (by omega), fun f f0 f1 => hp f f0 (by omega)⟩, fun _ => rfl⟩

def IsSet (F : XSetFunctor) : Prop := ShpG F ∧ UnitG F ∧ CompG F

theorem l19Is_eq {F : XSetFunctor} (h : SmallG F) : M.spec_l19Is F = some (decide (IsSet F)) := by
  apply Ret.ask
  unfold M.spec_l19Is
  refine Ret.call (l19Shape_eq h) (Ret.ite (fun h1 => ?_) (fun h1 => Ret.some ⟨(fun h => by cases h), fun e => absurd (decide_eq_true e.1) h1⟩))
  have h1 := of_decide_eq_true h1
  refine Ret.bind (l19Fault_r h1) fun r hr => Ret.some ?_
  rw [beq_iff_eq, hr]
  exact ⟨fun x => ⟨h1, x⟩, fun x => x.2⟩

theorem isSetFunctor_eq {F : XSetFunctor} (h : SmallG F) : M.impl_SetFunctor_isSetFunctor F = some (decide (IsSet F)) := by
  apply Ret.ask
  unfold M.impl_SetFunctor_isSetFunctor
  refine Ret.call (isShapeG_eq h) (Ret.ite (fun h1 => ?_) (fun h1 => Ret.some ⟨(fun h => by cases h), fun e => absurd (decide_eq_true e.1) h1⟩))
  have h1 := of_decide_eq_true h1
  refine Ret.bind (faultG_r h1) fun r hr => Ret.some ?_
  rw [beq_iff_eq, hr]
  exact ⟨fun x => ⟨h1, x⟩, fun x => x.2⟩
end Go.Gx

/- Plain laws: lists after each other; transformations: copies, marks. -/
namespace Go.Gx
open Classical
set_option maxHeartbeats 1000000

def thenL (a b : List Int) : List Int := tab (a.length : Int) fun i => el b (el a i)

structure SmallT (t : XTransformation) : Prop where
  s1 : SmallF t.Source
  s2 : SmallF t.Target
  s3 : Small t.Components

def zeroT : XTransformation := ⟨zeroF, zeroF, []⟩
end Go.Gx

/- Plain laws: sameness; natural transformations; functors after each other. -/
namespace Go.Gx
open Classical
set_option maxHeartbeats 4000000

instance : Inhabited XFunctor := ⟨zeroF⟩
instance : Inhabited XTransformation := ⟨zeroT⟩

/-! ### sizes -/
structure FitsT (t : XTransformation) : Prop where
  f1 : FitsF t.Source
  f2 : FitsF t.Target
  f3 : Fits t.Components
/-! ### the same -/
theorem l01Same_eq {a b : List Int} (ha : Small a) (_ : Small b) : M.spec_l01Same a b = some (decide (a = b)) := by
  apply Ret.ask
  unfold M.spec_l01Same
  simp only [decide_eq_true_eq, bne_iff_ne, ne_eq]
  refine Ret.ite (fun h => Ret.some ?_) (fun h => ?_)
  · exact ⟨(fun h => by cases h), fun e => absurd (by rw [e]) h⟩
  · refine Ret.all (a.length : Int) (fun i => el a i = el b i) (by omega) (by omega) ?_ ?_
    · intro i next hi0 hi1 hp hn1
      rw [if_pos hi1]
      refine Ret.idx hi0 hi1 (Ret.idx hi0 (by omega) (Ret.ite (fun hne => Ret.some ?_) (fun he => hn1 (Decidable.not_not.1 he))))
      exact ⟨(fun h => by cases h), fun e => absurd (by rw [e]) hne⟩
    · intro next hp
      rw [if_neg (by omega)]
      exact Ret.some ⟨fun _ => list_ext (by omega) hp, fun _ => rfl⟩

def Par (f g : XFunctor) : Prop := f.Source = g.Source ∧ f.Target = g.Target

/-! ### lists of functors -/
/-! ### natural transformations -/
def Ends (f g : XFunctor) (c : List Int) : Prop :=
  (c.length : Int) = f.Source.Objects ∧ In (f.Target.From.length : Int) c ∧ ∀ i, 0 ≤ i → i < (c.length : Int) → el f.Target.From (el c i) = el f.Objects i ∧ el f.Target.To (el c i) = el g.Objects i

def ShapeT (t : XTransformation) : Prop := IsFun t.Source ∧ IsFun t.Target ∧ Par t.Source t.Target ∧ Ends t.Source t.Target t.Components

def Sq (f g : XFunctor) (c : List Int) (a : Int) : Prop := cmp f.Target (el f.Arrows a) (el c (el f.Source.To a)) = cmp f.Target (el c (el f.Source.From a)) (el g.Arrows a)

/-- What the indices of a square need. -/
theorem ShapeT.facts {t : XTransformation} (h : ShapeT t) {a : Int} (h0 : 0 ≤ a) (h1 : a < (t.Source.Arrows.length : Int)) :
    a < (t.Source.Source.From.length : Int) ∧ a < (t.Source.Source.To.length : Int) ∧ a < (t.Target.Arrows.length : Int) ∧
    (0 ≤ el t.Source.Arrows a ∧ el t.Source.Arrows a < (t.Source.Target.From.length : Int)) ∧
    (0 ≤ el t.Target.Arrows a ∧ el t.Target.Arrows a < (t.Source.Target.From.length : Int)) ∧
    (0 ≤ el t.Source.Source.To a ∧ el t.Source.Source.To a < (t.Components.length : Int)) ∧
    (0 ≤ el t.Source.Source.From a ∧ el t.Source.Source.From a < (t.Components.length : Int)) ∧
    (0 ≤ el t.Components (el t.Source.Source.To a) ∧ el t.Components (el t.Source.Source.To a) < (t.Source.Target.From.length : Int)) ∧
    (0 ≤ el t.Components (el t.Source.Source.From a) ∧ el t.Components (el t.Source.Source.From a) < (t.Source.Target.From.length : Int)) := by
  obtain ⟨hS, hT, hp, hc⟩ := h
  have k1 := hS.1.1.shp
  have l1 := k1.lto
  have l2 := hS.2.2.la
  have l3 := hT.2.2.la
  have l4 := hT.2.2.ina a h0
  have l5 := hS.2.2.ina a h0 h1
  have p1 : t.Source.Source = t.Target.Source := hp.1
  have p2 : t.Source.Target = t.Target.Target := hp.2
  rw [← p1] at l3
  rw [← p2] at l4
  have m1 := k1.to_in a h0 (by omega)
  have m2 := k1.from_in a h0 (by omega)
  have l6 := hc.1
  have n1 := hc.2.1 (el t.Source.Source.To a) m1.1 (by omega)
  have n2 := hc.2.1 (el t.Source.Source.From a) m2.1 (by omega)
  exact ⟨by omega, by omega, by omega, l5, l4 (by omega), ⟨m1.1, by omega⟩, ⟨m2.1, by omega⟩, n1, n2⟩

def Squares (t : XTransformation) : Prop := ∀ a, 0 ≤ a → a < (t.Source.Arrows.length : Int) → Sq t.Source t.Target t.Components a

def IsNat (t : XTransformation) : Prop := ShapeT t ∧ Squares t

/-! ### functors after each other -/
def thenF (f g : XFunctor) : XFunctor := ⟨f.Source, g.Target, thenL f.Objects g.Objects, thenL f.Arrows g.Arrows⟩
/-- f ends where g begins. -/
structure Meet (f g : XFunctor) : Prop where
  o : In (g.Objects.length : Int) f.Objects
  a : In (g.Arrows.length : Int) f.Arrows

end Go.Gx

/- The law of HorizontalComposite. -/
namespace Go.Gx
open Classical
set_option maxHeartbeats 1000000

/-- Arrows composed place by place. -/
def cmpL (c : XCategory) (a b : List Int) : List Int := tab (a.length : Int) fun i => cmp c (el a i) (el b i)

/-- Two transformations beside each other. -/
def beside (s t : XTransformation) : XTransformation :=
  ⟨thenF s.Source t.Source, thenF s.Target t.Target, cmpL t.Source.Target (thenL s.Components t.Source.Arrows) (thenL s.Target.Objects t.Components)⟩

structure Next (s t : XTransformation) : Prop where
  m1 : Meet s.Source t.Source
  m2 : Meet s.Target t.Source
  m3 : Meet s.Target t.Target
  c1 : In (t.Source.Arrows.length : Int) s.Components
  c2 : In (t.Components.length : Int) s.Target.Objects
  sh : Shp t.Source.Target
  ll : (thenL s.Components t.Source.Arrows).length = (thenL s.Target.Objects t.Components).length
  i1 : In (t.Source.Target.From.length : Int) (thenL s.Components t.Source.Arrows)
  i2 : In (t.Source.Target.From.length : Int) (thenL s.Target.Objects t.Components)

end Go.Gx

/- Plain laws: the identity functor is a functor. -/
namespace Go.Gx
open Classical
set_option maxHeartbeats 1000000

end Go.Gx

/- Plain laws: functors after each other are functors; natural families. -/
namespace Go.Gx
open Classical
set_option maxHeartbeats 1000000

theorem l02Then_eq {c : XCategory} {i j : Int} (h0 : 0 ≤ i) (h1 : i < (c.Composites.length : Int)) (h2 : 0 ≤ j) (h3 : j < ((el c.Composites i).length : Int)) : M.spec_l02Then c i j = some (cmp c i j) := by
  unfold M.spec_l02Then
  rw [idx_el h0 h1]
  show (idx (el c.Composites i) j).bind _ = _
  rw [idx_el h2 h3]; rfl
/-- Two arrows that stand in the table. -/
theorem l02Then_in {c : XCategory} (hc : Shp c) {i j : Int} (h0 : 0 ≤ i ∧ i < (c.From.length : Int)) (h2 : 0 ≤ j ∧ j < (c.From.length : Int)) : M.spec_l02Then c i j = some (cmp c i j) := by
  have := hc.lco
  have := hc.row i h0.1 h0.2
  exact l02Then_eq h0.1 (by omega) h2.1 (by omega)
theorem then_in {c : XCategory} (hc : Shp c) {i j : Int} (h0 : 0 ≤ i ∧ i < (c.From.length : Int)) (h2 : 0 ≤ j ∧ j < (c.From.length : Int)) : M.impl_Category_then c i j = some (cmp c i j) := by
  have := hc.lco
  have := hc.row i h0.1 h0.2
  exact then_eq h0.1 (by omega) h2.1 (by omega)

end Go.Gx

/- Plain laws: two functors. -/
namespace Go.Gx
open Classical
set_option maxHeartbeats 1000000

/-- Small lists of small lists. -/
def SmallX (l : List (List Int)) : Prop := Small l ∧ ∀ r ∈ l, Small r
theorem SmallX.nil : SmallX [] := ⟨by simp, by simp⟩
end Go.Gx

/- Plain laws: units of a category. -/
namespace Go.Gx
open Classical
set_option maxHeartbeats 1000000

end Go.Gx

/- Plain laws: arrows with their ends. -/
namespace Go.Gx
open Classical
set_option maxHeartbeats 1000000

/-- f goes from x to y. -/
structure Ar (c : XCategory) (f x y : Int) : Prop where
  p : 0 ≤ f
  q : f < (c.From.length : Int)
  s : el c.From f = x
  t : el c.To f = y

section
variable {c : XCategory} {f g x y z w : Int}
theorem Ar.of (h0 : 0 ≤ f) (h1 : f < (c.From.length : Int)) : Ar c f (el c.From f) (el c.To f) := ⟨h0, h1, rfl, rfl⟩
theorem Ar.src (hc : Shp c) (h : Ar c f x y) : 0 ≤ x ∧ x < c.Objects := by rw [← h.s]; exact hc.from_in f h.p h.q
theorem Ar.one (hc : Shp c) (h0 : 0 ≤ x) (h1 : x < c.Objects) : Ar c (el c.Identity x) x x :=
  have h := hc.id_in x h0 h1
  ⟨h.1, h.2, hc.id_from x h0 h1, hc.id_to x h0 h1⟩
theorem Ar.en (hc : Shp c) (a : Ar c f x y) : M.impl_Category_ends c f = some ⟨x, y⟩ := by
  have l := hc.lto
  have e := ends_eq (c := c) (y := f) a.p a.q (by have := a.q; omega)
  rw [a.s, a.t] at e
  exact e
end

theorem IsFun.map {F : XFunctor} (h : IsFun F) {f x y : Int} (a : Ar F.Source f x y) : Ar F.Target (el F.Arrows f) (el F.Objects x) (el F.Objects y) := by
  have la := h.2.2.la
  have i := h.2.2.ina f a.p (by have := a.q; omega)
  exact ⟨i.1, i.2, by rw [h.2.2.afrom f a.p a.q, a.s], by rw [h.2.2.ato f a.p a.q, a.t]⟩

theorem IsNat.at {t : XTransformation} (h : IsNat t) {x : Int} (x0 : 0 ≤ x) (x1 : x < t.Source.Source.Objects) :
    Ar t.Source.Target (el t.Components x) (el t.Source.Objects x) (el t.Target.Objects x) ∧ x < (t.Components.length : Int) := by
  obtain ⟨u1, u2, u3⟩ := h.1.2.2.2
  have i := u2 x x0 (by omega)
  have e := u3 x x0 (by omega)
  exact ⟨⟨i.1, i.2, e.1, e.2⟩, by omega⟩

end Go.Gx

/- Plain laws: hom sets, profunctors of functors. -/
namespace Go.Gx
open Classical
set_option maxHeartbeats 2000000

def homL (c : XCategory) (x y : Int) : List Int := fil (c.From.length : Int) fun s => el c.From s == x && el c.To s == y

theorem l02Hom_eq {c : XCategory} (h : Shp c) (x y : Int) : M.spec_l02Hom c x y = some (homL c x y) := by
  apply Ret.eq
  have m40 := h.m40
  have lto := h.lto
  unfold M.spec_l02Hom
  refine Ret.acc (c.From.length : Int) (fun i a => a = fil i fun s => el c.From s == x && el c.To s == y) (by omega) (by omega) rfl ?_ ?_
  · rintro i a next hi0 hi1 rfl hn1
    have hle := fil_length_le i fun s => el c.From s == x && el c.To s == y
    dsimp only
    simp only [decide_eq_true_eq, beq_iff_eq]
    rw [if_pos hi1]
    refine Ret.idx hi0 hi1 (Ret.ite (fun h1 => Ret.idx hi0 (by omega) (Ret.ite (fun h2 => Ret.chk (by unfold lim; simp only [List.length_cons, List.length_nil]; omega) (hn1 _ ?_)) (fun h2 => hn1 _ ?_))) (fun h1 => hn1 _ ?_))
    · rw [fil_succ _ hi0]; simp [h1, h2]
    · rw [fil_succ _ hi0]; simp [h2]
    · rw [fil_succ _ hi0]; simp [h1]
  · rintro a next rfl
    dsimp only
    simp only [decide_eq_true_eq]
    rw [if_neg (by omega)]
    exact Ret.some rfl

theorem hom_eq {c : XCategory} (h : Shp c) (x y : Int) : M.impl_Category_hom c x y = some (homL c x y) := l02Hom_eq h x y

theorem homL_len {c : XCategory} (h : Shp c) (x y : Int) : ((homL c x y).length : Int) ≤ 40 := by
  have := fil_length_le (c.From.length : Int) fun s => el c.From s == x && el c.To s == y
  have m40 := h.m40
  unfold homL
  omega
theorem homL_mem {c : XCategory} {x y s : Int} : s ∈ homL c x y ↔ 0 ≤ s ∧ s < (c.From.length : Int) ∧ el c.From s = x ∧ el c.To s = y := by
  unfold homL
  rw [fil_mem, Bool.and_eq_true, beq_iff_eq, beq_iff_eq]

/-! ### the profunctor of two functors with one target -/
structure Two (f g : XFunctor) : Prop where
  sf : Shp f.Source
  sg : Shp g.Source
  st : Shp f.Target
  lo : (f.Objects.length : Int) = f.Source.Objects
  la : (f.Arrows.length : Int) = (f.Source.From.length : Int)
  lo' : (g.Objects.length : Int) = g.Source.Objects
  la' : (g.Arrows.length : Int) = (g.Source.From.length : Int)
  ia : In (f.Target.From.length : Int) f.Arrows
  ia' : In (f.Target.From.length : Int) g.Arrows

end Go.Gx

/- Plain laws: inverses, isomorphisms among arrows. -/
namespace Go.Gx
open Classical
set_option maxHeartbeats 1000000

end Go.Gx

/- Plain laws: objects and arrows of a category, in range. -/
namespace Go.Gx
open Classical
set_option maxHeartbeats 1000000

end Go.Gx
