/- The law of IsFamily. -/
import Derived.Test.YtjmjhhhglbeacaaGxQ51
import Derived.Test.YtjmjhhhglbeacaaGxPu
import Derived.Test.YtjmjhhhglbeacaaGxy32M
namespace Go.Gx
open Classical
set_option maxHeartbeats 1000000

structure SmallY (t : XFamily) : Prop where
  s1 : SmallC t.Base
  s2 : Small t.Fibres
  s3 : ∀ c ∈ t.Fibres, SmallC c
  s4 : Small t.Changes
  s5 : ∀ c ∈ t.Changes, SmallF c
structure FitsY (t : XFamily) : Prop where
  f1 : FitsC t.Base
  f2 : Fits t.Fibres
  f3 : ∀ c ∈ t.Fibres, FitsC c
  f4 : Fits t.Changes
  f5 : ∀ c ∈ t.Changes, FitsF c
theorem fitsY {t : XFamily} (h : R.XFamily t) : FitsY t := ⟨fitsC h.1, h.2.1.1, fun r hr => fitsC (h.2.1.2 r hr), h.2.2.1, fun r hr => fitsF (h.2.2.2 r hr)⟩

theorem szCategoryS_r {l : List XCategory} {n : Int} (h0 : 0 ≤ n) (h1 : n ≤ 1048576) (hl : Fits l) (hr : ∀ r ∈ l, FitsC r) :
    Ret (M.laws_szCategoryS l n) fun r => (r < 0 ∧ r = -1) ∨ (0 ≤ r ∧ r ≤ n ∧ Small l ∧ ∀ x ∈ l, SmallC x) := by
  unfold M.laws_szCategoryS
  rw [wrap_in (by omega) (by omega)]
  simp only [decide_eq_true_eq]
  (repeat' (first | with_reducible refine Ret.pos ‹_› ?_ | with_reducible refine Ret.neg ‹_› ?_ | with_reducible refine Ret.neg (Int.lt_irrefl _) ?_ | with_reducible refine Ret.ite (fun _ => ?_) (fun _ => ?_) | with_reducible refine Ret.idx ?_ ?_ ?_ | with_reducible refine Ret.chk ?_ ?_ | with_reducible refine hn3 ?_ | with_reducible refine hn2 ?_ | with_reducible refine hn1 ?_ | with_reducible refine hn3 _ ?_ | with_reducible refine hn2 _ ?_ | with_reducible refine hn1 _ ?_ | with_reducible refine Ret.some ?_))
  all_goals (try ((fail_if_success (with_reducible refine Ret.probe ?_)); grind))
  refine Ret.acc (l.length : Int) (fun i a => 0 ≤ a ∧ a ≤ n ∧ ∀ j, 0 ≤ j → j < i → SmallC (el l j)) (by omega) (by omega) ⟨by omega, by omega, fun j h0 h1 => by omega⟩ ?_ ?_
  · intro i a next hi0 hi1 hp hn1
    dsimp only
    have := hr _ (el_mem hi0 hi1)
    (repeat' (first | with_reducible refine Ret.pos ‹_› ?_ | with_reducible refine Ret.neg ‹_› ?_ | with_reducible refine Ret.neg (Int.lt_irrefl _) ?_ | with_reducible refine Ret.ite (fun _ => ?_) (fun _ => ?_) | with_reducible refine Ret.idx ?_ ?_ ?_ | with_reducible refine Ret.chk ?_ ?_ | with_reducible refine hn3 ?_ | with_reducible refine hn2 ?_ | with_reducible refine hn1 ?_ | with_reducible refine hn3 _ ?_ | with_reducible refine hn2 _ ?_ | with_reducible refine hn1 _ ?_ | with_reducible refine Ret.bind (szCategory_r ?_ ?_ ?_) fun v hv => ?_ | with_reducible refine Ret.some ?_))
    all_goals (try ((fail_if_success (with_reducible refine Ret.probe ?_)); grind))
  · intro a next hp
    dsimp only
    (repeat' (first | with_reducible refine Ret.pos ‹_› ?_ | with_reducible refine Ret.neg ‹_› ?_ | with_reducible refine Ret.neg (Int.lt_irrefl _) ?_ | with_reducible refine Ret.ite (fun _ => ?_) (fun _ => ?_) | with_reducible refine Ret.idx ?_ ?_ ?_ | with_reducible refine Ret.chk ?_ ?_ | with_reducible refine hn3 ?_ | with_reducible refine hn2 ?_ | with_reducible refine hn1 ?_ | with_reducible refine hn3 _ ?_ | with_reducible refine hn2 _ ?_ | with_reducible refine hn1 _ ?_ | with_reducible refine Ret.some ?_))
    refine Or.inr ⟨hp.1, hp.2.1, by omega, fun x hx => ?_⟩
    obtain ⟨i, h0, h1, rfl⟩ := mem_el hx
    exact hp.2.2 i h0 h1

theorem szFunctorS_r {l : List XFunctor} {n : Int} (h0 : 0 ≤ n) (h1 : n ≤ 1048576) (hl : Fits l) (hr : ∀ r ∈ l, FitsF r) :
    Ret (M.laws_szFunctorS l n) fun r => (r < 0 ∧ r = -1) ∨ (0 ≤ r ∧ r ≤ n ∧ Small l ∧ ∀ x ∈ l, SmallF x) := by
  unfold M.laws_szFunctorS
  rw [wrap_in (by omega) (by omega)]
  simp only [decide_eq_true_eq]
  (repeat' (first | with_reducible refine Ret.pos ‹_› ?_ | with_reducible refine Ret.neg ‹_› ?_ | with_reducible refine Ret.neg (Int.lt_irrefl _) ?_ | with_reducible refine Ret.ite (fun _ => ?_) (fun _ => ?_) | with_reducible refine Ret.idx ?_ ?_ ?_ | with_reducible refine Ret.chk ?_ ?_ | with_reducible refine hn3 ?_ | with_reducible refine hn2 ?_ | with_reducible refine hn1 ?_ | with_reducible refine hn3 _ ?_ | with_reducible refine hn2 _ ?_ | with_reducible refine hn1 _ ?_ | with_reducible refine Ret.some ?_))
  all_goals (try ((fail_if_success (with_reducible refine Ret.probe ?_)); grind))
  refine Ret.acc (l.length : Int) (fun i a => 0 ≤ a ∧ a ≤ n ∧ ∀ j, 0 ≤ j → j < i → SmallF (el l j)) (by omega) (by omega) ⟨by omega, by omega, fun j h0 h1 => by omega⟩ ?_ ?_
  · intro i a next hi0 hi1 hp hn1
    dsimp only
    have := hr _ (el_mem hi0 hi1)
    (repeat' (first | with_reducible refine Ret.pos ‹_› ?_ | with_reducible refine Ret.neg ‹_› ?_ | with_reducible refine Ret.neg (Int.lt_irrefl _) ?_ | with_reducible refine Ret.ite (fun _ => ?_) (fun _ => ?_) | with_reducible refine Ret.idx ?_ ?_ ?_ | with_reducible refine Ret.chk ?_ ?_ | with_reducible refine hn3 ?_ | with_reducible refine hn2 ?_ | with_reducible refine hn1 ?_ | with_reducible refine hn3 _ ?_ | with_reducible refine hn2 _ ?_ | with_reducible refine hn1 _ ?_ | with_reducible refine Ret.bind (szFunctor_r ?_ ?_ ?_) fun v hv => ?_ | with_reducible refine Ret.some ?_))
    all_goals (try ((fail_if_success (with_reducible refine Ret.probe ?_)); grind))
  · intro a next hp
    dsimp only
    (repeat' (first | with_reducible refine Ret.pos ‹_› ?_ | with_reducible refine Ret.neg ‹_› ?_ | with_reducible refine Ret.neg (Int.lt_irrefl _) ?_ | with_reducible refine Ret.ite (fun _ => ?_) (fun _ => ?_) | with_reducible refine Ret.idx ?_ ?_ ?_ | with_reducible refine Ret.chk ?_ ?_ | with_reducible refine hn3 ?_ | with_reducible refine hn2 ?_ | with_reducible refine hn1 ?_ | with_reducible refine hn3 _ ?_ | with_reducible refine hn2 _ ?_ | with_reducible refine hn1 _ ?_ | with_reducible refine Ret.some ?_))
    refine Or.inr ⟨hp.1, hp.2.1, by omega, fun x hx => ?_⟩
    obtain ⟨i, h0, h1, rfl⟩ := mem_el hx
    exact hp.2.2 i h0 h1

theorem szFamily_r {m : XFamily} {n : Int} (h0 : 0 ≤ n) (h1 : n ≤ 1048576) (h : FitsY m) :
    Ret (M.laws_szFamily m n) fun r => (r < 0 ∧ r = -1) ∨ (0 ≤ r ∧ r ≤ n ∧ SmallY m) := by
  obtain ⟨g1, g2, g3, g4, g5⟩ := h
  unfold M.laws_szFamily
  simp only [decide_eq_true_eq]
  (repeat' (first | with_reducible refine Ret.pos ‹_› ?_ | with_reducible refine Ret.neg ‹_› ?_ | with_reducible refine Ret.neg (Int.lt_irrefl _) ?_ | with_reducible refine Ret.ite (fun _ => ?_) (fun _ => ?_) | with_reducible refine Ret.idx ?_ ?_ ?_ | with_reducible refine Ret.chk ?_ ?_ | with_reducible refine hn3 ?_ | with_reducible refine hn2 ?_ | with_reducible refine hn1 ?_ | with_reducible refine hn3 _ ?_ | with_reducible refine hn2 _ ?_ | with_reducible refine hn1 _ ?_ | with_reducible refine Ret.bind (szCategory_r ?_ ?_ ?_) fun v hv => ?_ | with_reducible refine Ret.bind (szCategoryS_r ?_ ?_ ?_ ?_) fun v hv => ?_ | with_reducible refine Ret.bind (szFunctorS_r ?_ ?_ ?_ ?_) fun v hv => ?_ | with_reducible refine Ret.some ?_))
  all_goals first | assumption | omega | (refine Or.inl ⟨by omega, rfl⟩) | (refine Or.inr ⟨by omega, by omega, ⟨?_, ?_, ?_, ?_, ?_⟩⟩ <;> grind)

theorem toCategoryS_eq {l : List XCategory} (h : Small l) (hr : ∀ r ∈ l, SmallC r) : M.laws_toCategoryS l = some l := by
  apply Ret.eq
  unfold M.laws_toCategoryS
  refine Ret.chk ⟨by omega, by unfold lim; omega⟩ ?_
  refine Ret.acc (l.length : Int) (fun i a => a = tab (l.length : Int) fun j => if j < i then el l j else ⟨0, [], [], [], []⟩) (by omega) (by omega) ?_ ?_ ?_
  · rw [rep_tab]; apply tab_congr; intro j h0 h1; rw [if_neg (by omega)]
  · rintro i a next hi0 hi1 rfl hn1
    dsimp only
    rw [if_pos (decide_eq_true hi1)]
    refine Ret.idx hi0 hi1 (Ret.call (toCategory_eq (hr _ (el_mem hi0 hi1))) (Ret.idx hi0 (by rw [tab_length]; omega) (hn1 _ ?_)))
    exact set_copy hi0 hi1
  · rintro a next rfl
    dsimp only
    simp only [decide_eq_true_eq]
    (repeat' (first | with_reducible refine Ret.pos ‹_› ?_ | with_reducible refine Ret.neg ‹_› ?_ | with_reducible refine Ret.neg (Int.lt_irrefl _) ?_ | with_reducible refine Ret.ite (fun _ => ?_) (fun _ => ?_) | with_reducible refine Ret.idx ?_ ?_ ?_ | with_reducible refine Ret.chk ?_ ?_ | with_reducible refine hn3 ?_ | with_reducible refine hn2 ?_ | with_reducible refine hn1 ?_ | with_reducible refine hn3 _ ?_ | with_reducible refine hn2 _ ?_ | with_reducible refine hn1 _ ?_ | with_reducible refine Ret.some ?_))
    conv => rhs; rw [← tab_el l]
    apply tab_congr; intro j h0 h1; rw [if_pos h1]

theorem toFunctorS_eq {l : List XFunctor} (h : Small l) (hr : ∀ r ∈ l, SmallF r) : M.laws_toFunctorS l = some l := by
  apply Ret.eq
  unfold M.laws_toFunctorS
  refine Ret.chk ⟨by omega, by unfold lim; omega⟩ ?_
  refine Ret.acc (l.length : Int) (fun i a => a = tab (l.length : Int) fun j => if j < i then el l j else ⟨⟨0, [], [], [], []⟩, ⟨0, [], [], [], []⟩, [], []⟩) (by omega) (by omega) ?_ ?_ ?_
  · rw [rep_tab]; apply tab_congr; intro j h0 h1; rw [if_neg (by omega)]
  · rintro i a next hi0 hi1 rfl hn1
    dsimp only
    rw [if_pos (decide_eq_true hi1)]
    refine Ret.idx hi0 hi1 (Ret.call (toFunctor_eq (hr _ (el_mem hi0 hi1))) (Ret.idx hi0 (by rw [tab_length]; omega) (hn1 _ ?_)))
    exact set_copy hi0 hi1
  · rintro a next rfl
    dsimp only
    simp only [decide_eq_true_eq]
    (repeat' (first | with_reducible refine Ret.pos ‹_› ?_ | with_reducible refine Ret.neg ‹_› ?_ | with_reducible refine Ret.neg (Int.lt_irrefl _) ?_ | with_reducible refine Ret.ite (fun _ => ?_) (fun _ => ?_) | with_reducible refine Ret.idx ?_ ?_ ?_ | with_reducible refine Ret.chk ?_ ?_ | with_reducible refine hn3 ?_ | with_reducible refine hn2 ?_ | with_reducible refine hn1 ?_ | with_reducible refine hn3 _ ?_ | with_reducible refine hn2 _ ?_ | with_reducible refine hn1 _ ?_ | with_reducible refine Ret.some ?_))
    conv => rhs; rw [← tab_el l]
    apply tab_congr; intro j h0 h1; rw [if_pos h1]

theorem toFamily_eq {m : XFamily} (h : SmallY m) : M.laws_toFamily m = some m := by
  unfold M.laws_toFamily
  rw [toCategory_eq h.s1, toCategoryS_eq h.s2 h.s3, toFunctorS_eq h.s4 h.s5]; rfl

theorem eqCategoryS_refl {l : List XCategory} (h : Small l) (hr : ∀ r ∈ l, SmallC r) : M.laws_eqCategoryS l l = some true := by
  apply Ret.eq
  unfold M.laws_eqCategoryS
  simp only [bne_self_eq_false, Bool.false_eq_true, if_false, decide_eq_true_eq]
  refine Ret.all (l.length : Int) (fun _ => True) (by omega) (by omega) ?_ ?_
  · intro i next hi0 hi1 hp hn1
    have := hr _ (el_mem hi0 hi1)
    (repeat' (first | with_reducible refine Ret.pos ‹_› ?_ | with_reducible refine Ret.neg ‹_› ?_ | with_reducible refine Ret.neg (Int.lt_irrefl _) ?_ | with_reducible refine Ret.ite (fun _ => ?_) (fun _ => ?_) | with_reducible refine Ret.idx ?_ ?_ ?_ | with_reducible refine Ret.chk ?_ ?_ | with_reducible refine hn3 ?_ | with_reducible refine hn2 ?_ | with_reducible refine hn1 ?_ | with_reducible refine hn3 _ ?_ | with_reducible refine hn2 _ ?_ | with_reducible refine hn1 _ ?_ | with_reducible refine Ret.call (eqCategory_refl ?_) ?_ | with_reducible refine Ret.some ?_))
    all_goals (try ((fail_if_success (with_reducible refine Ret.probe ?_)); grind))
  · intro next hp
    (repeat' (first | with_reducible refine Ret.pos ‹_› ?_ | with_reducible refine Ret.neg ‹_› ?_ | with_reducible refine Ret.neg (Int.lt_irrefl _) ?_ | with_reducible refine Ret.ite (fun _ => ?_) (fun _ => ?_) | with_reducible refine Ret.idx ?_ ?_ ?_ | with_reducible refine Ret.chk ?_ ?_ | with_reducible refine hn3 ?_ | with_reducible refine hn2 ?_ | with_reducible refine hn1 ?_ | with_reducible refine hn3 _ ?_ | with_reducible refine hn2 _ ?_ | with_reducible refine hn1 _ ?_ | with_reducible refine Ret.some ?_))
    all_goals (try ((fail_if_success (with_reducible refine Ret.probe ?_)); grind))
theorem eqFunctorS_refl {l : List XFunctor} (h : Small l) (hr : ∀ r ∈ l, SmallF r) : M.laws_eqFunctorS l l = some true := by
  apply Ret.eq
  unfold M.laws_eqFunctorS
  simp only [bne_self_eq_false, Bool.false_eq_true, if_false, decide_eq_true_eq]
  refine Ret.all (l.length : Int) (fun _ => True) (by omega) (by omega) ?_ ?_
  · intro i next hi0 hi1 hp hn1
    have := hr _ (el_mem hi0 hi1)
    (repeat' (first | with_reducible refine Ret.pos ‹_› ?_ | with_reducible refine Ret.neg ‹_› ?_ | with_reducible refine Ret.neg (Int.lt_irrefl _) ?_ | with_reducible refine Ret.ite (fun _ => ?_) (fun _ => ?_) | with_reducible refine Ret.idx ?_ ?_ ?_ | with_reducible refine Ret.chk ?_ ?_ | with_reducible refine hn3 ?_ | with_reducible refine hn2 ?_ | with_reducible refine hn1 ?_ | with_reducible refine hn3 _ ?_ | with_reducible refine hn2 _ ?_ | with_reducible refine hn1 _ ?_ | with_reducible refine Ret.call (eqFunctor_refl ?_) ?_ | with_reducible refine Ret.some ?_))
    all_goals (try ((fail_if_success (with_reducible refine Ret.probe ?_)); grind))
  · intro next hp
    (repeat' (first | with_reducible refine Ret.pos ‹_› ?_ | with_reducible refine Ret.neg ‹_› ?_ | with_reducible refine Ret.neg (Int.lt_irrefl _) ?_ | with_reducible refine Ret.ite (fun _ => ?_) (fun _ => ?_) | with_reducible refine Ret.idx ?_ ?_ ?_ | with_reducible refine Ret.chk ?_ ?_ | with_reducible refine hn3 ?_ | with_reducible refine hn2 ?_ | with_reducible refine hn1 ?_ | with_reducible refine hn3 _ ?_ | with_reducible refine hn2 _ ?_ | with_reducible refine hn1 _ ?_ | with_reducible refine Ret.some ?_))
    all_goals (try ((fail_if_success (with_reducible refine Ret.probe ?_)); grind))
theorem eqFamily_refl {m : XFamily} (h : SmallY m) : M.laws_eqFamily m m = some true := by
  unfold M.laws_eqFamily
  rw [eqCategory_refl h.s1, eqCategoryS_refl h.s2 h.s3, eqFunctorS_refl h.s4 h.s5]; simp

def ChOk (t : XFamily) (a : Int) : Prop := IsFun (el t.Changes a) ∧ (el t.Changes a).Source = el t.Fibres (el t.Base.From a) ∧ (el t.Changes a).Target = el t.Fibres (el t.Base.To a)
def ChId (t : XFamily) (x : Int) : Prop := el t.Changes (el t.Base.Identity x) = idF (el t.Fibres x)
def ChCm (t : XFamily) (f g : Int) : Prop := el t.Base.To f = el t.Base.From g → el t.Changes (cmp t.Base f g) = thenF (el t.Changes f) (el t.Changes g)
structure IsFam (t : XFamily) : Prop where
  cat : IsCat t.Base
  lf : (t.Fibres.length : Int) = t.Base.Objects
  lc : (t.Changes.length : Int) = (t.Base.From.length : Int)
  fib : ∀ x, 0 ≤ x → x < (t.Fibres.length : Int) → IsCat (el t.Fibres x)
  cha : ∀ a, 0 ≤ a → a < (t.Changes.length : Int) → ChOk t a
  cid : ∀ x, 0 ≤ x → x < (t.Fibres.length : Int) → ChId t x
  ccm : ∀ f, 0 ≤ f → f < (t.Changes.length : Int) → ∀ g, 0 ≤ g → g < (t.Changes.length : Int) → ChCm t f g

theorem IsFamily_spec {t : XFamily} (h : SmallY t) : M.spec_IsFamily t = some (decide (IsFam t)) := by
  apply Ret.ask
  obtain ⟨s1, s2, s3, s4, s5⟩ := h
  unfold M.spec_IsFamily
  simp only [bne_iff_ne, ne_eq, beq_iff_eq]
  refine Ret.call (l02Is_eq s1) (Ret.ite (fun h1 => ?_) (fun h1 => Ret.some ⟨(fun h => by cases h), fun e => absurd (decide_eq_true e.cat) h1⟩))
  have h1 := of_decide_eq_true h1
  have hS := h1.1.shp
  have lid := hS.lid
  have lto := hS.lto
  have lco := hS.lco
  refine Ret.ite (fun h2 => Ret.some ⟨(fun h => by cases h), fun e => absurd e.lf h2⟩) (fun h2 => ?_)
  refine Ret.ite (fun h3 => Ret.some ⟨(fun h => by cases h), fun e => absurd e.lc h3⟩) (fun h3 => ?_)
  have h2 := Decidable.not_not.1 h2
  have h3 := Decidable.not_not.1 h3
  refine Ret.all (t.Fibres.length : Int) (fun x => IsCat (el t.Fibres x)) (by omega) (by omega) ?_ ?_
  · intro i next i0 i1 hp hn1
    rw [if_pos (decide_eq_true i1)]
    exact Ret.idx i0 i1 (Ret.call (l02Is_eq (s3 _ (el_mem i0 i1))) (Ret.ite (fun hb => hn1 (of_decide_eq_true hb)) (fun hb => Ret.some ⟨(fun h => by cases h), fun e => absurd (decide_eq_true (e.fib i i0 i1)) hb⟩)))
  intro next h4
  rw [if_neg (by simp)]
  refine Ret.all (t.Changes.length : Int) (fun a => ChOk t a) (by omega) (by omega) ?_ ?_
  · intro a next a0 a1 hp hn1
    rw [if_pos (decide_eq_true a1)]
    have x1 := hS.from_in a a0 (by omega)
    have x2 := hS.to_in a a0 (by omega)
    have sf := s5 _ (el_mem a0 a1)
    refine Ret.idx a0 a1 (Ret.call (l06Is_eq sf) (Ret.ite (fun hb => ?_) (fun hb => Ret.some ⟨(fun h => by cases h), fun e => absurd (decide_eq_true (e.cha a a0 a1).1) hb⟩)))
    refine Ret.idx a0 (by omega) (Ret.idx x1.1 (by omega) (Ret.call (l02Same_eq sf.s1 (s3 _ (el_mem x1.1 (by omega)))) (Ret.ite (fun hc => ?_) (fun hb => Ret.some ⟨(fun h => by cases h), fun e => absurd (decide_eq_true (e.cha a a0 a1).2.1) hb⟩))))
    refine Ret.idx a0 (by omega) (Ret.idx x2.1 (by omega) (Ret.call (l02Same_eq sf.s2 (s3 _ (el_mem x2.1 (by omega)))) (Ret.ite (fun hd => hn1 ?_) (fun hb => Ret.some ⟨(fun h => by cases h), fun e => absurd (decide_eq_true (e.cha a a0 a1).2.2) hb⟩))))
    exact ⟨of_decide_eq_true hb, of_decide_eq_true hc, of_decide_eq_true hd⟩
  intro next h5
  rw [if_neg (by simp)]
  refine Ret.all (t.Fibres.length : Int) (fun x => ChId t x) (by omega) (by omega) ?_ ?_
  · intro x next x0 x1 hp hn1
    rw [if_pos (decide_eq_true x1)]
    have i := hS.id_in x x0 (by omega)
    have sc := s3 _ (el_mem x0 x1)
    refine Ret.idx x0 (by omega) (Ret.idx i.1 (by omega) (Ret.idx x0 x1 (Ret.call (l06Self_eq sc (h4 x x0 x1).1.shp) (Ret.call (l06Same_eq (s5 _ (el_mem i.1 (by omega))) (idF_small sc (h4 x x0 x1).1.shp)) (Ret.ite (fun hb => hn1 (of_decide_eq_true hb)) (fun hb => Ret.some ⟨(fun h => by cases h), fun e => absurd (decide_eq_true (e.cid x x0 x1)) hb⟩))))))
  intro next h6
  rw [if_neg (by simp)]
  refine Ret.all (t.Changes.length : Int) (fun f => ∀ g, 0 ≤ g → g < (t.Changes.length : Int) → ChCm t f g) (by omega) (by omega) ?_ ?_
  · intro f next f0 f1 hp hn1
    rw [if_pos (decide_eq_true f1)]
    refine Ret.all (t.Changes.length : Int) (fun g => ChCm t f g) (by omega) (by omega) ?_ ?_
    · intro g next g0 g1 hp hn2
      rw [if_pos (decide_eq_true g1)]
      refine Ret.idx f0 (by omega) (Ret.idx g0 (by omega) (Ret.ite (fun hb => ?_) (fun hb => hn2 fun e => absurd e hb)))
      have y := hS.yes f g f0 (by omega) g0 (by omega) hb
      have y2 : cmp t.Base f g < (t.Changes.length : Int) := by omega
      have rw_ := hS.row f f0 (by omega)
      have sf := s5 _ (el_mem f0 f1)
      have sg := s5 _ (el_mem g0 g1)
      have mt : Meet (el t.Changes f) (el t.Changes g) := meet_of (h5 f f0 f1).1 (h5 g g0 g1).1 (by rw [(h5 f f0 f1).2.2, (h5 g g0 g1).2.1, hb])
      refine Ret.idx f0 (by omega) (Ret.idx g0 (by omega) (Ret.idx y.1 y2 (Ret.idx f0 f1 (Ret.idx g0 g1 (Ret.call (l06Then_eq sf sg mt) (Ret.call (l06Same_eq (s5 _ (el_mem y.1 (by omega))) (thenF_small sf sg)) (Ret.ite (fun hc => hn2 fun _ => of_decide_eq_true hc) (fun hc => Ret.some ⟨(fun h => by cases h), fun e => absurd (decide_eq_true (e.ccm f f0 f1 g g0 g1 hb)) hc⟩))))))))
    · intro next hp2
      rw [if_neg (by simp)]
      exact hn1 hp2
  · intro next h7
    rw [if_neg (by simp)]
    exact Ret.some ⟨fun _ => ⟨h1, h2, h3, h4, h5, h6, h7⟩, fun _ => rfl⟩

theorem isFamily_eq {t : XFamily} (h : SmallY t) : M.impl_Family_isFamily t = some (decide (IsFam t)) := by
  apply Ret.ask
  obtain ⟨s1, s2, s3, s4, s5⟩ := h
  unfold M.impl_Family_isFamily M.impl_Category_arrows
  simp only [bne_iff_ne, ne_eq, Option.bind_some]
  refine Ret.call (isCategory_eq s1) (Ret.ite (fun h1 => ?_) (fun h1 => Ret.some ⟨(fun h => by cases h), fun e => absurd (decide_eq_true e.cat) h1⟩))
  have h1 := of_decide_eq_true h1
  have hS := h1.1.shp
  have lid := hS.lid
  have lto := hS.lto
  have lco := hS.lco
  refine Ret.ite (fun h2 => Ret.some ⟨(fun h => by cases h), fun e => absurd e.lf h2⟩) (fun h2 => ?_)
  refine Ret.ite (fun h3 => Ret.some ⟨(fun h => by cases h), fun e => absurd e.lc h3⟩) (fun h3 => ?_)
  have h2 := Decidable.not_not.1 h2
  have h3 := Decidable.not_not.1 h3
  refine Ret.all (t.Fibres.length : Int) (fun x => IsCat (el t.Fibres x)) (by omega) (by omega) ?_ ?_
  · intro i next i0 i1 hp hn1
    rw [if_pos (decide_eq_true i1)]
    exact Ret.idx i0 i1 (Ret.call (isCategory_eq (s3 _ (el_mem i0 i1))) (Ret.ite (fun hb => hn1 (of_decide_eq_true hb)) (fun hb => Ret.some ⟨(fun h => by cases h), fun e => absurd (decide_eq_true (e.fib i i0 i1)) hb⟩)))
  intro next h4
  rw [if_neg (by simp)]
  refine Ret.all (t.Changes.length : Int) (fun a => ChOk t a) (by omega) (by omega) ?_ ?_
  · intro a next a0 a1 hp hn1
    rw [if_pos (decide_eq_true a1)]
    have x1 := hS.from_in a a0 (by omega)
    have x2 := hS.to_in a a0 (by omega)
    have sf := s5 _ (el_mem a0 a1)
    refine Ret.idx a0 a1 (Ret.call (isFunctor_eq sf) (Ret.ite (fun hb => ?_) (fun hb => Ret.some ⟨(fun h => by cases h), fun e => absurd (decide_eq_true (e.cha a a0 a1).1) hb⟩)))
    refine Ret.idx a0 (by omega) (Ret.idx x1.1 (by omega) (Ret.call (sameCategory_eq sf.s1 (s3 _ (el_mem x1.1 (by omega)))) (Ret.ite (fun hc => ?_) (fun hb => Ret.some ⟨(fun h => by cases h), fun e => absurd (decide_eq_true (e.cha a a0 a1).2.1) hb⟩))))
    refine Ret.idx a0 (by omega) (Ret.idx x2.1 (by omega) (Ret.call (sameCategory_eq sf.s2 (s3 _ (el_mem x2.1 (by omega)))) (Ret.ite (fun hd => hn1 ?_) (fun hb => Ret.some ⟨(fun h => by cases h), fun e => absurd (decide_eq_true (e.cha a a0 a1).2.2) hb⟩))))
    exact ⟨of_decide_eq_true hb, of_decide_eq_true hc, of_decide_eq_true hd⟩
  intro next h5
  rw [if_neg (by simp)]
  refine Ret.all (t.Base.Identity.length : Int) (fun x => ChId t x) (by omega) (by omega) ?_ ?_
  · intro x next x0 x1 hp hn1
    rw [if_pos (decide_eq_true x1)]
    have i := hS.id_in x x0 (by omega)
    have sc := s3 _ (el_mem x0 (show x < (t.Fibres.length : Int) by omega))
    have sh := (h4 x x0 (by omega)).1.shp
    refine Ret.idx x0 (by omega) (Ret.idx x0 (by omega) (Ret.call (identity_eq sc sh) (Ret.idx i.1 (by omega) (Ret.call (sameFunctor_eq (s5 _ (el_mem i.1 (by omega))) (idF_small sc sh)) (Ret.ite (fun hb => hn1 (of_decide_eq_true hb)) (fun hb => Ret.some ⟨(fun h => by cases h), fun e => absurd (decide_eq_true (e.cid x x0 (by omega))) hb⟩))))))
  intro next h6
  rw [if_neg (by simp)]
  refine Ret.all (t.Base.Composites.length : Int) (fun f => ∀ g, 0 ≤ g → g < (t.Changes.length : Int) → ChCm t f g) (by omega) (by omega) ?_ ?_
  · intro f next f0 f1 hp hn1
    rw [if_pos (decide_eq_true f1)]
    have rw_ := hS.row f f0 (by omega)
    have f2 : f < (t.Changes.length : Int) := by omega
    refine Ret.idx f0 (by omega) (Ret.all ((el t.Base.Composites f).length : Int) (fun g => ChCm t f g) (by omega) (by omega) ?_ ?_)
    · intro g next g0 g1 hp hn2
      rw [if_pos (decide_eq_true g1)]
      have g2 : g < (t.Changes.length : Int) := by omega
      refine Ret.idx g0 g1 (Ret.ite (fun hb => hn2 fun e => ?_) (fun hb => ?_))
      · have y := hS.yes f g f0 (by omega) g0 (by omega) e
        have hb := of_decide_eq_true hb
        exact absurd y.1 (by show ¬ 0 ≤ cmp t.Base f g; exact Int.not_le.2 hb)
      have hb : ¬ cmp t.Base f g < 0 := fun x => hb (decide_eq_true x)
      have he : el t.Base.To f = el t.Base.From g := by
        apply Decidable.byContradiction
        intro hne
        have := hS.no f g f0 (by omega) g0 (by omega) hne
        omega
      have y := hS.yes f g f0 (by omega) g0 (by omega) he
      have y2 : cmp t.Base f g < (t.Changes.length : Int) := by omega
      have sf := s5 _ (el_mem f0 f2)
      have sg := s5 _ (el_mem g0 g2)
      have mt : Meet (el t.Changes f) (el t.Changes g) := meet_of (h5 f f0 f2).1 (h5 g g0 g2).1 (by rw [(h5 f f0 f2).2.2, (h5 g g0 g2).2.1, he])
      refine Ret.idx f0 f2 (Ret.idx g0 g2 (Ret.call (Functor_then_eq sf sg mt) (Ret.idx y.1 y2 (Ret.call (sameFunctor_eq (s5 _ (el_mem y.1 (by omega))) (thenF_small sf sg)) (Ret.ite (fun hc => hn2 fun _ => of_decide_eq_true hc) (fun hc => Ret.some ⟨(fun h => by cases h), fun e => absurd (decide_eq_true (e.ccm f f0 f2 g g0 g2 he)) hc⟩))))))
    · intro next hp2
      rw [if_neg (by simp)]
      exact hn1 fun g g0 g1 => hp2 g g0 (by omega)
  · intro next h7
    rw [if_neg (by simp)]
    exact Ret.some ⟨fun _ => ⟨h1, h2, h3, h4, h5, fun x x0 x1 => h6 x x0 (by omega), fun f f0 f1 => h7 f f0 (by omega)⟩, fun _ => rfl⟩

theorem IsFamily_both {t : XFamily} (h : SmallY t) : ∃ w, M.spec_IsFamily t = some w ∧ M.impl_IsFamily t = some w := by
  unfold M.impl_IsFamily
  rw [IsFamily_spec h, isFamily_eq h]
  exact ⟨_, rfl, rfl⟩

theorem law_IsFamily {a0 : XFamily} (h0 : R.XFamily a0) : M.laws_FnExactIsFamily a0 = some true := by
  unfold M.laws_FnExactIsFamily
  obtain ⟨v0, e0, hv0⟩ := szFamily_r (n := 1048576) (by decide) (by decide) (fitsY h0)
  rw [e0, Option.bind_some]
  rcases hv0 with ⟨z0, _⟩ | ⟨l0, u0, s0⟩
  · rw [if_pos (decide_eq_true z0)]
  · rw [if_neg (fun h => absurd (of_decide_eq_true h) (by omega))]
    rw [toFamily_eq s0, Option.bind_some]
    obtain ⟨w, es, ei⟩ := IsFamily_both s0
    have hb0 : ((w == w) == false) = false := by cases w <;> rfl
    rw [es, ei]
    simp only [Option.bind_some]
    rw [eqFamily_refl s0]
    simp only [Option.bind_some, Bool.false_eq_true, if_false, if_true, hb0]

end Go.Gx
