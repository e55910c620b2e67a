/- Laid together: part 1. -/
import Derived.Test.YtiikkfdehbcfaaaGxEP0
import Derived.Test.YtiikkfdehbcfaaaGxEM0
/- Plain laws: universal arrows. -/
namespace Go.Gx
open Classical
set_option maxHeartbeats 1000000

/-! ### lists without doubles -/
theorem nodup_len : ∀ {l m : List Int}, l.Nodup → (∀ x ∈ l, x ∈ m) → l.length ≤ m.length
  | [], _, _, _ => by simp
  | a :: l, m, hl, h => by
    obtain ⟨s, t, rfl⟩ := List.append_of_mem (h a (by simp))
    rw [List.nodup_cons] at hl
    have := nodup_len (l := l) (m := s ++ t) hl.2 fun x hx => by
      have h1 := h x (by simp [hx])
      simp only [List.mem_append, List.mem_cons] at h1 ⊢
      rcases h1 with h1 | h1 | h1
      · exact Or.inl h1
      · subst h1; exact absurd hx hl.1
      · exact Or.inr h1
    simp only [List.length_append, List.length_cons] at this ⊢
    omega
theorem fil_nodup (n : Int) (p : Int → Bool) : (fil n p).Nodup := by
  unfold fil
  refine List.Pairwise.filter _ ?_
  rw [List.pairwise_map]
  exact (show List.Pairwise (fun a b : Nat => a ≠ b) (List.range n.toNat) from List.nodup_range).imp fun h e => h (by omega)
/-! ### a map's keys -/
/-- What a map holds after the first i values. -/
structure Keys (l : List Int) (m : List (Int × Bool)) : Prop where
  mem : ∀ k, k ∈ m.map (·.1) ↔ k ∈ l
  le : m.length ≤ l.length
  eq : m.length = l.length ↔ l.Nodup
/-! ### universal arrows -/
abbrev lftL (f : XFunctor) (x z e g : Int) : List Int := (homL f.Source x z).filter fun u => cmp f.Target (el f.Arrows u) e == g
def Univ (f : XFunctor) (y z e : Int) : Prop := ∀ x, 0 ≤ x → x < f.Source.Objects → ∀ g ∈ homL f.Target (el f.Objects x) y, ((lftL f x z e g).length : Int) = 1

theorem ar_hom {c : XCategory} {x y s : Int} (h : Ar c s x y) : s ∈ homL c x y := homL_mem.2 ⟨h.p, h.q, h.s, h.t⟩

/-- What is found: the first universal arrow to y. -/
def Found (f : XFunctor) (y : Int) (r : Int × Int × Bool) : Prop :=
  (r.2.2 = true ∧ 0 ≤ r.1 ∧ r.1 < f.Source.Objects ∧ (∀ x, 0 ≤ x → x < r.1 → ∀ g ∈ homL f.Target (el f.Objects x) y, ¬ Univ f y x g) ∧
    ∃ j, 0 ≤ j ∧ j < ((homL f.Target (el f.Objects r.1) y).length : Int) ∧ r.2.1 = el (homL f.Target (el f.Objects r.1) y) j ∧ Univ f y r.1 r.2.1 ∧ ∀ k, 0 ≤ k → k < j → ¬ Univ f y r.1 (el (homL f.Target (el f.Objects r.1) y) k)) ∨
  (r = (0, 0, false) ∧ ∀ x, 0 ≤ x → x < f.Source.Objects → ∀ g ∈ homL f.Target (el f.Objects x) y, ¬ Univ f y x g)

theorem Found.one {f : XFunctor} {y : Int} {r s : Int × Int × Bool} (hr : Found f y r) (hs : Found f y s) : r = s := by
  obtain ⟨r1, r2, r3⟩ := r
  obtain ⟨s1, s2, s3⟩ := s
  rcases hr with ⟨a1, a2, a3, a4, j, j0, j1, j2, j3, j4⟩ | ⟨a1, a2⟩ <;> rcases hs with ⟨b1, b2, b3, b4, k, k0, k1, k2, k3, k4⟩ | ⟨b1, b2⟩
  · dsimp only at *
    have e1 : r1 = s1 := by
      rcases Int.lt_trichotomy r1 s1 with h | h | h
      · exact absurd j3 (b4 r1 a2 h r2 (j2 ▸ el_mem j0 j1))
      · exact h
      · exact absurd k3 (a4 s1 b2 h s2 (k2 ▸ el_mem k0 k1))
    subst e1
    have e2 : j = k := by
      rcases Int.lt_trichotomy j k with h | h | h
      · exact absurd j3 (j2 ▸ k4 j j0 h)
      · exact h
      · exact absurd k3 (k2 ▸ j4 k k0 h)
    subst e2
    rw [j2, k2, a1, b1]
  · dsimp only at *
    exact absurd j3 (b2 r1 a2 a3 r2 (j2 ▸ el_mem j0 j1))
  · dsimp only at *
    exact absurd k3 (a2 s1 b2 b3 s2 (k2 ▸ el_mem k0 k1))
  · rw [a1, b1]

end Go.Gx

/- Plain laws: products of categories. -/
namespace Go.Gx
open Classical
set_option maxHeartbeats 2000000

theorem mulb {i j n m : Int} (i0 : 0 ≤ i) (h : i < n) (h0 : 0 ≤ j) (h1 : j < m) : 0 ≤ i * m ∧ i * m + j < n * m ∧ i * m + m ≤ n * m := by
  have e1 : (i + 1) * m ≤ n * m := Int.mul_le_mul_of_nonneg_right (by omega) (by omega)
  rw [Int.add_mul, Int.one_mul] at e1
  have e2 := Int.mul_nonneg i0 (show 0 ≤ m by omega)
  omega
theorem mulB {n m N M : Int} (h0 : 0 ≤ n) (h1 : n ≤ N) (h2 : 0 ≤ m) (h3 : m ≤ M) : 0 ≤ n * m ∧ n * m ≤ N * M :=
  ⟨Int.mul_nonneg h0 h2, Int.mul_le_mul h1 h3 h2 (by omega)⟩
theorem parts {k n m : Int} (h0 : 0 ≤ k) (h1 : k < n * m) (hm : 0 ≤ m) : 0 < m ∧ 0 ≤ k / m ∧ k / m < n ∧ 0 ≤ k % m ∧ k % m < m := by
  have hm : 0 < m := by
    rcases Int.lt_or_eq_of_le hm with h | h
    · exact h
    · rw [← h, Int.mul_zero] at h1; omega
  exact ⟨hm, Int.ediv_nonneg h0 (by omega), Int.ediv_lt_of_lt_mul hm h1, Int.emod_nonneg _ (by omega), Int.emod_lt_of_pos _ hm⟩
/-- Two numbers as one, over all pairs. -/
abbrev tab2 {α : Type} (n m : Int) (f : Int → Int → α) : List α := tab (n * m) fun k => f (k / m) (k % m)
theorem tab_len' (n : Int) {α : Type} (f : Int → α) (h : 0 ≤ n) : ((tab n f).length : Int) = n := by rw [tab_length]; omega

end Go.Gx

/- Plain laws: the product as impl makes it; projections. -/
namespace Go.Gx
open Classical
set_option maxHeartbeats 2000000

end Go.Gx

/- Plain laws: pairs of lists; products of functors. -/
namespace Go.Gx
open Classical
set_option maxHeartbeats 1000000

abbrev pairF (a b : List Int) (n : Int) (i j : Int) : Int := el a i * n + el b j
def pairL (a b : List Int) (n : Int) : List Int := tab2 (a.length : Int) (b.length : Int) (pairF a b n)
/-- Codes of pairs are small numbers. -/
structure PairOk (a b : List Int) (n A : Int) : Prop where
  hA : A ≤ 40
  hn : n ≤ 40
  la : (a.length : Int) ≤ 40
  lb : (b.length : Int) ≤ 40
  ia : In A a
  ib : In n b

theorem PairOk.len {a b : List Int} {n A : Int} (h : PairOk a b n A) {i j : Int} (i0 : 0 ≤ i) (i1 : i < (a.length : Int)) (j0 : 0 ≤ j) (j1 : j < (b.length : Int)) (F : Int → Int) :
    ((tab (i * (b.length : Int) + j) F).length : Int) ≤ 1600 := by
  have hb1 := mulb i0 i1 j0 j1
  have hB := mulB (n := (a.length : Int)) (m := (b.length : Int)) (N := 40) (M := 40) (by omega) h.la (by omega) h.lb
  rw [tab_len' _ _ (by omega)]; omega
theorem PairOk.small {a b : List Int} {n A : Int} (h : PairOk a b n A) : Small (pairL a b n) := by
  have hB := mulB (n := (a.length : Int)) (m := (b.length : Int)) (N := 40) (M := 40) (by omega) h.la (by omega) h.lb
  unfold Small pairL; rw [tab_len' _ _ hB.1]; omega

end Go.Gx

/- The law of InverseFunctor. -/
namespace Go.Gx
open Classical
set_option maxHeartbeats 1000000

theorem l01Has_eq {l : List Int} (h : Small l) (x : Int) : M.spec_l01Has l x = some (decide (x ∈ l)) := by
  apply Ret.ask
  unfold M.spec_l01Has
  simp only [decide_eq_true_eq, beq_iff_eq]
  refine Ret.all (l.length : Int) (fun i => el l i ≠ x) (by omega) (by omega) ?_ ?_
  · intro i next hi0 hi1 hp hn1
    rw [if_pos hi1]
    refine Ret.idx hi0 hi1 (Ret.ite (fun he => Ret.some ?_) (fun he => hn1 he))
    exact ⟨fun _ => he ▸ el_mem hi0 hi1, fun _ => rfl⟩
  · intro next hp
    rw [if_neg (by omega)]
    refine Ret.some ⟨(fun h => by cases h), fun hx => ?_⟩
    obtain ⟨i, h0, h1, e⟩ := mem_el hx
    exact absurd e (hp i h0 h1)

end Go.Gx

/- Plain laws: places in lists; full parts of a category. -/
namespace Go.Gx
open Classical
set_option maxHeartbeats 1000000

/-! ### places -/
theorem indexL_at {l : List Int} (hl : Small l) {i : Int} (i0 : 0 ≤ i) (i1 : i < (l.length : Int)) (hn : ∀ j, 0 ≤ j → j < i → el l j ≠ el l i) : indexL l (el l i) = i := by
  have h : Ret (M.spec_l01Index l (el l i)) fun r => r = i := by
    unfold M.spec_l01Index
    simp only [beq_iff_eq]
    refine Ret.all (l.length : Int) (fun j => el l j ≠ el l i) (by omega) (by omega) ?_ ?_
    · intro j next j0 j1 hp hn1
      rw [if_pos (decide_eq_true j1)]
      refine Ret.idx j0 j1 (Ret.ite (fun h => Ret.some ?_) (fun h => hn1 h))
      rcases Int.lt_trichotomy j i with h1 | h1 | h1
      · exact absurd h (hn j j0 h1)
      · exact h1
      · exact absurd rfl (hp i i0 h1)
    · intro next hp
      exact absurd rfl (hp i i0 i1)
  rw [l01Index_eq hl] at h
  obtain ⟨r, e, rfl⟩ := h
  exact Option.some.inj e
theorem indexL_no {l : List Int} (hl : Small l) {v : Int} (hv : v ∉ l) : indexL l v = -1 := by
  have h : Ret (M.spec_l01Index l v) fun r => r = -1 := by
    unfold M.spec_l01Index
    simp only [beq_iff_eq]
    refine Ret.all (l.length : Int) (fun _ => True) (by omega) (by omega) ?_ ?_
    · intro j next j0 j1 hp hn1
      rw [if_pos (decide_eq_true j1)]
      refine Ret.idx j0 j1 (Ret.ite (fun h => absurd (h ▸ el_mem j0 j1) hv) (fun h => hn1 trivial))
    · intro next hp
      rw [if_neg (by simp)]
      exact Ret.some rfl
  rw [l01Index_eq hl] at h
  obtain ⟨r, e, rfl⟩ := h
  exact Option.some.inj e
theorem nodup_el {l : List Int} (h : l.Nodup) {i j : Int} (i0 : 0 ≤ i) (i1 : i < (l.length : Int)) (j0 : 0 ≤ j) (j1 : j < (l.length : Int)) (e : el l i = el l j) : i = j := by
  have hp := List.pairwise_iff_getElem.1 (show List.Pairwise (fun a b : Int => a ≠ b) l from h)
  have ei : el l i = l[i.toNat]'(by omega) := by
    have := el_get (l := l) (k := i.toNat) (by omega)
    rwa [show ((i.toNat : Nat) : Int) = i by omega] at this
  have ej : el l j = l[j.toNat]'(by omega) := by
    have := el_get (l := l) (k := j.toNat) (by omega)
    rwa [show ((j.toNat : Nat) : Int) = j by omega] at this
  rcases Int.lt_trichotomy i j with h1 | h1 | h1
  · exact absurd (by rw [← ei, ← ej]; exact e) (hp i.toNat j.toNat (by omega) (by omega) (by omega))
  · exact h1
  · exact absurd (by rw [← ei, ← ej]; exact e.symm) (hp j.toNat i.toNat (by omega) (by omega) (by omega))
theorem indexL_el {l : List Int} (hl : Small l) (h : l.Nodup) {i : Int} (i0 : 0 ≤ i) (i1 : i < (l.length : Int)) : indexL l (el l i) = i :=
  indexL_at hl i0 i1 fun j j0 j1 e => by have := nodup_el h j0 (by omega) i0 i1 e; omega
theorem fil_more {i : Int} (p : Int → Bool) (h : 0 ≤ i) : ∀ k : Nat, ∃ t, fil (i + (k : Int)) p = fil i p ++ t
  | 0 => ⟨[], by simp⟩
  | k + 1 => by
    obtain ⟨t, e⟩ := fil_more p h k
    rw [show i + ((k + 1 : Nat) : Int) = (i + (k : Int)) + 1 by omega, fil_succ p (by omega), e]
    exact ⟨t ++ _, by rw [List.append_assoc]⟩
/-- Where a number that passes lies. -/
theorem fil_place {n i : Int} (p : Int → Bool) (i0 : 0 ≤ i) (i1 : i < n) (hp : p i = true) (hn : n ≤ 1048576) : indexL (fil n p) i = ((fil i p).length : Int) := by
  obtain ⟨t, e⟩ := fil_more p (show 0 ≤ i + 1 by omega) (n - (i + 1)).toNat
  rw [show i + 1 + (((n - (i + 1)).toNat : Nat) : Int) = n by omega, fil_succ p i0, hp] at e
  simp only [if_true] at e
  have hl := fil_length_le n p
  have hlen : (fil i p).length < (fil n p).length := by rw [e]; simp only [List.length_append, List.length_cons]; omega
  have he : el (fil n p) ((fil i p).length : Int) = i := by
    rw [el_get hlen]
    simp only [e, List.append_assoc]
    rw [List.getElem_append_right (Nat.le_refl _)]
    simp
  have := indexL_el (l := fil n p) (by unfold Small; omega) (fil_nodup n p) (i := ((fil i p).length : Int)) (by omega) (by omega)
  rwa [he] at this

/-! ### full parts -/
theorem has_eq {l : List Int} (h : Small l) (x : Int) : M.impl_has l x = some (decide (x ∈ l)) := l01Has_eq h x
noncomputable def fullL (c : XCategory) (o : List Int) : List Int := fil (c.From.length : Int) fun f => decide (el c.From f ∈ o) && decide (el c.To f ∈ o)
theorem fullL_mem {c : XCategory} {o : List Int} {f : Int} : f ∈ fullL c o ↔ 0 ≤ f ∧ f < (c.From.length : Int) ∧ el c.From f ∈ o ∧ el c.To f ∈ o := by
  unfold fullL
  rw [fil_mem, Bool.and_eq_true, decide_eq_true_iff, decide_eq_true_iff]
/-- A choice of objects: those that pass. -/
structure Pick (c : XCategory) (o : List Int) : Prop where
  s : Shp c
  e : o = fil c.Objects fun x => decide (x ∈ o)
theorem Pick.nodup {c : XCategory} {o : List Int} (h : Pick c o) : o.Nodup := by rw [h.e]; exact fil_nodup _ _
theorem Pick.len {c : XCategory} {o : List Int} (h : Pick c o) : (o.length : Int) ≤ c.Objects := by
  have h1 := fil_length_le c.Objects fun x => decide (x ∈ o)
  have n0 := h.s.n0
  have := congrArg List.length h.e
  omega
theorem Pick.inn {c : XCategory} {o : List Int} (h : Pick c o) {x : Int} (hx : x ∈ o) : 0 ≤ x ∧ x < c.Objects := by
  rw [h.e] at hx
  have := fil_mem.1 hx
  exact ⟨this.1, this.2.1⟩
theorem Pick.id {c : XCategory} {o : List Int} (h : Pick c o) {x : Int} (x0 : 0 ≤ x) (x1 : x < c.Objects) : el c.Identity x ∈ fullL c o ↔ x ∈ o := by
  have i := h.s.id_in x x0 x1
  rw [fullL_mem, h.s.id_from x x0 x1, h.s.id_to x x0 x1]
  exact ⟨fun y => y.2.2.1, fun y => ⟨i.1, i.2, y, y⟩⟩
theorem Pick.objs {c : XCategory} {o : List Int} (h : Pick c o) : (fil c.Objects fun x => decide (el c.Identity x ∈ fullL c o)) = o := by
  conv => rhs; rw [h.e]
  apply fil_congr
  intro x x0 x1
  rw [decide_eq_decide]
  exact h.id x0 x1

theorem Pick.comp {c : XCategory} {o : List Int} (h : Pick c o) {f g : Int} (hf : f ∈ fullL c o) (hg : g ∈ fullL c o) (e : el c.To f = el c.From g) : cmp c f g ∈ fullL c o := by
  have mf := fullL_mem.1 hf
  have mg := fullL_mem.1 hg
  have y := h.s.yes f g mf.1 mf.2.1 mg.1 mg.2.1 e
  rw [fullL_mem, h.s.cfrom f g mf.1 mf.2.1 mg.1 mg.2.1 e, h.s.cto f g mf.1 mf.2.1 mg.1 mg.2.1 e]
  exact ⟨y.1, y.2, mf.2.2.1, mg.2.2.2⟩

end Go.Gx

/- Plain laws: labels and their classes; elements that are joined. -/
namespace Go.Gx
open Classical
set_option maxHeartbeats 1000000

/-! ### the least equivalence -/
inductive Eqv (P : Int → Int → Prop) : Int → Int → Prop
  | of {x y : Int} : P x y → Eqv P x y
  | refl (x : Int) : Eqv P x x
  | symm {x y : Int} : Eqv P x y → Eqv P y x
  | trans {x y z : Int} : Eqv P x y → Eqv P y z → Eqv P x z

theorem Eqv.mono {P Q : Int → Int → Prop} (h : ∀ x y, P x y → Eqv Q x y) {x y : Int} (e : Eqv P x y) : Eqv Q x y := by
  induction e with
  | of p => exact h _ _ p
  | refl x => exact .refl x
  | symm _ ih => exact .symm ih
  | trans _ _ ih1 ih2 => exact .trans ih1 ih2
theorem Eqv.congr {P Q : Int → Int → Prop} (h : ∀ x y, P x y → Eqv Q x y) (h' : ∀ x y, Q x y → Eqv P x y) {x y : Int} : Eqv P x y ↔ Eqv Q x y := ⟨Eqv.mono h, Eqv.mono h'⟩
/-- An equivalence that holds where P does. -/
theorem Eqv.into {P : Int → Int → Prop} {f : Int → Int} (h : ∀ x y, P x y → f x = f y) {x y : Int} (e : Eqv P x y) : f x = f y := by
  induction e with
  | of p => exact h _ _ p
  | refl x => rfl
  | symm _ ih => exact ih.symm
  | trans _ _ ih1 ih2 => exact ih1.trans ih2
theorem Eqv.add {P : Int → Int → Prop} {p q i j : Int} : Eqv (fun x y => P x y ∨ (x = p ∧ y = q)) i j ↔ Eqv P i j ∨ (Eqv P i p ∧ Eqv P q j) ∨ (Eqv P i q ∧ Eqv P p j) := by
  constructor
  · intro e
    induction e with
    | of h =>
      rcases h with h | ⟨rfl, rfl⟩
      · exact .inl (.of h)
      · exact .inr (.inl ⟨.refl _, .refl _⟩)
    | refl x => exact .inl (.refl x)
    | symm _ ih =>
      rcases ih with h | ⟨h, k⟩ | ⟨h, k⟩
      · exact .inl h.symm
      · exact .inr (.inr ⟨k.symm, h.symm⟩)
      · exact .inr (.inl ⟨k.symm, h.symm⟩)
    | trans _ _ ih1 ih2 =>
      rcases ih1 with h | ⟨h, k⟩ | ⟨h, k⟩
      · rcases ih2 with h' | ⟨h', k'⟩ | ⟨h', k'⟩
        · exact .inl (h.trans h')
        · exact .inr (.inl ⟨h.trans h', k'⟩)
        · exact .inr (.inr ⟨h.trans h', k'⟩)
      · rcases ih2 with h' | ⟨h', k'⟩ | ⟨h', k'⟩
        · exact .inr (.inl ⟨h, k.trans h'⟩)
        · exact .inr (.inl ⟨h, k'⟩)
        · exact .inl (h.trans k')
      · rcases ih2 with h' | ⟨h', k'⟩ | ⟨h', k'⟩
        · exact .inr (.inr ⟨h, k.trans h'⟩)
        · exact .inl (h.trans k')
        · exact .inr (.inr ⟨h, k'⟩)
  · have up : ∀ {a b}, Eqv P a b → Eqv (fun x y => P x y ∨ (x = p ∧ y = q)) a b := fun h => Eqv.mono (fun x y z => .of (.inl z)) h
    have pq : Eqv (fun x y => P x y ∨ (x = p ∧ y = q)) p q := .of (.inr ⟨rfl, rfl⟩)
    rintro (h | ⟨h, k⟩ | ⟨h, k⟩)
    · exact up h
    · exact (up h).trans (pq.trans (up k))
    · exact (up h).trans (pq.symm.trans (up k))

/-- f tells R apart on 0 .. n - 1. -/
def Ker (n : Int) (f : Int → Int) (R : Int → Int → Prop) : Prop := ∀ i j, 0 ≤ i → i < n → 0 ≤ j → j < n → (f i = f j ↔ R i j)

theorem Ker.congr {n : Int} {f : Int → Int} {R S : Int → Int → Prop} (h : Ker n f R) (e : ∀ i j, R i j ↔ S i j) : Ker n f S := fun i j i0 i1 j0 j1 => (h i j i0 i1 j0 j1).trans (e i j)
theorem Ker.none {n : Int} {f : Int → Int} (h : ∀ i j, 0 ≤ i → i < n → 0 ≤ j → j < n → f i = f j → i = j) : Ker n f (Eqv fun _ _ => False) := by
  intro i j i0 i1 j0 j1
  constructor
  · intro e; rw [h i j i0 i1 j0 j1 e]; exact .refl _
  · intro e; exact congrArg f (Eqv.into (f := fun x => x) (fun _ _ h => h.elim) e)
/-! ### labels numbered in the order in which they come -/
theorem least {p : Int → Prop} : ∀ (k : Nat), p (k : Int) → ∃ i : Int, 0 ≤ i ∧ i ≤ (k : Int) ∧ p i ∧ ∀ j, 0 ≤ j → j < i → ¬ p j := by
  intro k
  induction k using Nat.strongRecOn with
  | ind k ih =>
    intro hk
    by_cases h : ∃ j : Nat, j < k ∧ p (j : Int)
    · obtain ⟨j, hj, pj⟩ := h
      obtain ⟨i, i0, i1, pi, hi⟩ := ih j hj pj
      exact ⟨i, i0, by omega, pi, hi⟩
    · refine ⟨(k : Int), by omega, by omega, hk, fun j j0 j1 pj => h ⟨j.toNat, by omega, ?_⟩⟩
      rwa [show ((j.toNat : Nat) : Int) = j by omega]

section
variable {l : List Int}
end

/-! ### a forest whose roots are the least of their classes -/
structure UF (j : List Int) (ρ : Int → Int) : Prop where
  up : ∀ x, 0 ≤ x → x < (j.length : Int) → 0 ≤ el j x ∧ el j x ≤ x
  st : ∀ x, 0 ≤ x → x < (j.length : Int) → ρ (el j x) = ρ x
  fx : ∀ x, 0 ≤ x → x < (j.length : Int) → el j x = x → ρ x = x
  lo : ∀ x, 0 ≤ x → x < (j.length : Int) → 0 ≤ ρ x ∧ ρ x ≤ x
  ix : ∀ x, 0 ≤ x → x < (j.length : Int) → ρ (ρ x) = ρ x

theorem el_set {α : Type} [Inhabited α] {l : List α} {i k : Int} {v : α} (i0 : 0 ≤ i) (i1 : i < (l.length : Int)) (k0 : 0 ≤ k) : el (l.set i.toNat v) k = if k = i then v else el l k := by
  unfold el
  rw [List.getD_eq_getElem?_getD, List.getD_eq_getElem?_getD, List.getElem?_set]
  by_cases h : k = i
  · subst h; rw [if_pos rfl, if_pos (by omega), if_pos rfl]; rfl
  · rw [if_neg (by omega), if_neg h]

section
variable {j : List Int} {ρ : Int → Int}
theorem UF.start (n : Int) : UF (tab n fun x => x) (fun x => x) := by
  refine ⟨?_, ?_, ?_, ?_, ?_⟩ <;> intro x x0 x1 <;> (try rw [tab_length] at x1) <;> (try rw [el_tab x0 (by omega)]) <;> try omega
end
end Go.Gx

/- The law of QuasiInverse. -/
namespace Go.Gx
open Classical
set_option maxHeartbeats 1000000

def FullP (f : XFunctor) : Prop := ∀ x, 0 ≤ x → x < f.Source.Objects → ∀ y, 0 ≤ y → y < f.Source.Objects → ∀ i, 0 ≤ i → i < ((homL f.Target (el f.Objects x) (el f.Objects y)).length : Int) →
  el (homL f.Target (el f.Objects x) (el f.Objects y)) i ∈ thenL (homL f.Source x y) f.Arrows
def FaithP (f : XFunctor) : Prop := ∀ a, 0 ≤ a → a < (f.Arrows.length : Int) → ∀ b, 0 ≤ b → b < a → ¬ ((el f.Source.From a = el f.Source.From b ∧ el f.Source.To a = el f.Source.To b) ∧ el f.Arrows a = el f.Arrows b)
def SurjP (f : XFunctor) : Prop := ∀ y, 0 ≤ y → y < f.Target.Objects → ∃ x, 0 ≤ x ∧ x < (f.Objects.length : Int) ∧ 0 ≤ isoA f.Target (el f.Objects x) y

section
variable {f : XFunctor}
theorem homIn (h : IsFun f) (x y : Int) : In (f.Arrows.length : Int) (homL f.Source x y) := by
  intro i i0 i1
  have m := homL_mem.1 (el_mem i0 i1)
  have := h.2.2.la
  exact ⟨m.1, by omega⟩

theorem l06Full_eq (h : IsFun f) : M.spec_l06Full f = some (decide (FullP f)) := by
  apply Ret.eq
  have hs := h.1.1.shp
  have ht := h.2.1.1.shp
  have n0 := hs.n0
  have n8 := hs.n8
  have lo := h.2.2.lo
  unfold M.spec_l06Full
  refine Ret.all f.Source.Objects (fun x => ∀ y, 0 ≤ y → y < f.Source.Objects → ∀ i, 0 ≤ i → i < ((homL f.Target (el f.Objects x) (el f.Objects y)).length : Int) →
    el (homL f.Target (el f.Objects x) (el f.Objects y)) i ∈ thenL (homL f.Source x y) f.Arrows) n0 (by omega) ?_ ?_
  · intro x next x0 x1 hp hn
    rw [if_pos (decide_eq_true x1)]
    refine Ret.all f.Source.Objects (fun y => ∀ i, 0 ≤ i → i < ((homL f.Target (el f.Objects x) (el f.Objects y)).length : Int) →
      el (homL f.Target (el f.Objects x) (el f.Objects y)) i ∈ thenL (homL f.Source x y) f.Arrows) n0 (by omega) ?_ ?_
    · intro y next y0 y1 hq hn2
      have l1 := homL_len ht (el f.Objects x) (el f.Objects y)
      rw [if_pos (decide_eq_true y1)]
      refine Ret.call (l02Hom_eq hs _ _) (Ret.call (l01Then_eq (homL_small hs x y) (homIn h x y)) (Ret.idx x0 (by omega) (Ret.idx y0 (by omega) (Ret.call (l02Hom_eq ht _ _) ?_))))
      refine Ret.all ((homL f.Target (el f.Objects x) (el f.Objects y)).length : Int) (fun i => el (homL f.Target (el f.Objects x) (el f.Objects y)) i ∈ thenL (homL f.Source x y) f.Arrows) (by omega) (by omega) ?_ ?_
      · intro i next i0 i1 hr hn3
        rw [if_pos (decide_eq_true i1)]
        refine Ret.idx i0 i1 (Ret.call (l01Has_eq (thenL_small (homL_small hs x y)) _) (Ret.ite (fun e => hn3 (of_decide_eq_true e)) (fun e => Ret.some ?_)))
        rw [decide_eq_false (fun z : FullP f => e (decide_eq_true (z x x0 x1 y y0 y1 i i0 i1)))]
      · intro next hr
        rw [if_neg (by simp)]
        exact hn2 hr
    · intro next hq
      rw [if_neg (by simp)]
      exact hn hq
  · intro next hp
    rw [if_neg (by simp)]
    exact Ret.some (decide_eq_true (show FullP f from hp)).symm
theorem isFull_eq (h : IsFun f) : M.impl_Functor_isFull f = some (decide (FullP f)) := by
  apply Ret.eq
  have hs := h.1.1.shp
  have ht := h.2.1.1.shp
  have n0 := hs.n0
  have n8 := hs.n8
  have lo := h.2.2.lo
  unfold M.impl_Functor_isFull
  refine Ret.all f.Source.Objects (fun x => ∀ y, 0 ≤ y → y < f.Source.Objects → ∀ i, 0 ≤ i → i < ((homL f.Target (el f.Objects x) (el f.Objects y)).length : Int) →
    el (homL f.Target (el f.Objects x) (el f.Objects y)) i ∈ thenL (homL f.Source x y) f.Arrows) n0 (by omega) ?_ ?_
  · intro x next x0 x1 hp hn
    rw [if_pos (decide_eq_true x1)]
    refine Ret.all f.Source.Objects (fun y => ∀ i, 0 ≤ i → i < ((homL f.Target (el f.Objects x) (el f.Objects y)).length : Int) →
      el (homL f.Target (el f.Objects x) (el f.Objects y)) i ∈ thenL (homL f.Source x y) f.Arrows) n0 (by omega) ?_ ?_
    · intro y next y0 y1 hq hn2
      have l1 := homL_len ht (el f.Objects x) (el f.Objects y)
      rw [if_pos (decide_eq_true y1)]
      refine Ret.call (hom_eq hs _ _) (Ret.call (then2_eq (homL_small hs x y) (homIn h x y)) (Ret.idx x0 (by omega) (Ret.idx y0 (by omega) (Ret.call (hom_eq ht _ _) ?_))))
      refine Ret.all ((homL f.Target (el f.Objects x) (el f.Objects y)).length : Int) (fun i => el (homL f.Target (el f.Objects x) (el f.Objects y)) i ∈ thenL (homL f.Source x y) f.Arrows) (by omega) (by omega) ?_ ?_
      · intro i next i0 i1 hr hn3
        rw [if_pos (decide_eq_true i1)]
        refine Ret.idx i0 i1 (Ret.call (has_eq (thenL_small (homL_small hs x y)) _) (Ret.ite (fun e => hn3 (of_decide_eq_true e)) (fun e => Ret.some ?_)))
        rw [decide_eq_false (fun z : FullP f => e (decide_eq_true (z x x0 x1 y y0 y1 i i0 i1)))]
      · intro next hr
        rw [if_neg (by simp)]
        exact hn2 hr
    · intro next hq
      rw [if_neg (by simp)]
      exact hn hq
  · intro next hp
    rw [if_neg (by simp)]
    exact Ret.some (decide_eq_true (show FullP f from hp)).symm

theorem l06Faithful_eq (h : IsFun f) : M.spec_l06Faithful f = some (decide (FaithP f)) := by
  apply Ret.eq
  have hs := h.1.1.shp
  have m40 := hs.m40
  have lt := hs.lto
  have la := h.2.2.la
  unfold M.spec_l06Faithful M.spec_l03Parallel
  refine Ret.all (f.Arrows.length : Int) (fun a => ∀ b, 0 ≤ b → b < a → ¬ ((el f.Source.From a = el f.Source.From b ∧ el f.Source.To a = el f.Source.To b) ∧ el f.Arrows a = el f.Arrows b)) (by omega) (by omega) ?_ ?_
  · intro a next a0 a1 hp hn
    rw [if_pos (decide_eq_true a1)]
    refine Ret.all a (fun b => ¬ ((el f.Source.From a = el f.Source.From b ∧ el f.Source.To a = el f.Source.To b) ∧ el f.Arrows a = el f.Arrows b)) a0 (by omega) ?_ ?_
    · intro b next b0 b1 hq hn2
      rw [if_pos (decide_eq_true b1)]
      simp only [idx_el a0 (show a < (f.Source.From.length : Int) by omega), idx_el b0 (show b < (f.Source.From.length : Int) by omega), idx_el a0 (show a < (f.Source.To.length : Int) by omega), idx_el b0 (show b < (f.Source.To.length : Int) by omega),
        idx_el a0 a1, idx_el b0 (show b < (f.Arrows.length : Int) by omega), Option.bind_some, beq_iff_eq]
      by_cases e1 : el f.Source.From a = el f.Source.From b
      · rw [if_pos e1, Option.bind_some]
        by_cases e2 : el f.Source.To a = el f.Source.To b
        · rw [if_pos (beq_iff_eq.2 e2)]
          by_cases e3 : el f.Arrows a = el f.Arrows b
          · rw [if_pos e3]
            refine Ret.some ?_
            rw [decide_eq_false (fun z : FaithP f => z a a0 a1 b b0 b1 ⟨⟨e1, e2⟩, e3⟩)]
          · rw [if_neg e3]
            exact hn2 fun z => e3 z.2
        · rw [if_neg (fun z => e2 (beq_iff_eq.1 z))]
          exact hn2 fun z => e2 z.1.2
      · rw [if_neg e1, Option.bind_some, if_neg (by simp)]
        exact hn2 fun z => e1 z.1.1
    · intro next hq
      rw [if_neg (by simp)]
      exact hn hq
  · intro next hp
    rw [if_neg (by simp)]
    exact Ret.some (decide_eq_true (show FaithP f from hp)).symm
theorem isFaithful_eq (h : IsFun f) : M.impl_Functor_isFaithful f = some (decide (FaithP f)) := by
  apply Ret.eq
  have hs := h.1.1.shp
  have m40 := hs.m40
  have lt := hs.lto
  have la := h.2.2.la
  unfold M.impl_Functor_isFaithful
  refine Ret.all (f.Arrows.length : Int) (fun a => ∀ b, 0 ≤ b → b < a → ¬ ((el f.Source.From a = el f.Source.From b ∧ el f.Source.To a = el f.Source.To b) ∧ el f.Arrows a = el f.Arrows b)) (by omega) (by omega) ?_ ?_
  · intro a next a0 a1 hp hn
    rw [if_pos (decide_eq_true a1)]
    refine Ret.chk ⟨a0, by omega⟩ ?_
    rw [show ((a.toNat : Nat) : Int) = a by omega]
    refine Ret.all a (fun b => ¬ ((el f.Source.From a = el f.Source.From b ∧ el f.Source.To a = el f.Source.To b) ∧ el f.Arrows a = el f.Arrows b)) a0 (by omega) ?_ ?_
    · intro b next b0 b1 hq hn2
      rw [if_pos (decide_eq_true b1)]
      simp only [idx_el a0 a1, idx_el b0 (show b < (f.Arrows.length : Int) by omega), Option.bind_some, beq_iff_eq, ends_eq a0 (show a < (f.Source.From.length : Int) by omega) (show a < (f.Source.To.length : Int) by omega),
        ends_eq b0 (show b < (f.Source.From.length : Int) by omega) (show b < (f.Source.To.length : Int) by omega), Bool.and_eq_true]
      by_cases e3 : el f.Arrows a = el f.Arrows b
      · rw [if_pos e3]
        by_cases e : el f.Source.From a = el f.Source.From b ∧ el f.Source.To a = el f.Source.To b
        · rw [if_pos e]
          refine Ret.some ?_
          rw [decide_eq_false (fun z : FaithP f => z a a0 a1 b b0 b1 ⟨e, e3⟩)]
        · rw [if_neg e]
          exact hn2 fun z => e z.1
      · rw [if_neg e3]
        exact hn2 fun z => e3 z.2
    · intro next hq
      rw [if_neg (by simp)]
      exact hn hq
  · intro next hp
    rw [if_neg (by simp)]
    exact Ret.some (decide_eq_true (show FaithP f from hp)).symm

theorem l06Surjective_eq (h : IsFun f) : M.spec_l06Surjective f = some (decide (SurjP f)) := by
  apply Ret.eq
  have ht := h.2.1.1.shp
  have n8 := h.1.1.shp.n8
  have n0 := ht.n0
  have t8 := ht.n8
  have lo := h.2.2.lo
  unfold M.spec_l06Surjective
  refine Ret.all f.Target.Objects (fun y => ∃ x, 0 ≤ x ∧ x < (f.Objects.length : Int) ∧ 0 ≤ isoA f.Target (el f.Objects x) y) n0 (by omega) ?_ ?_
  · intro y next y0 y1 hp hn
    rw [if_pos (decide_eq_true y1)]
    refine Ret.acc (f.Objects.length : Int) (fun i b => b = decide (∃ x, 0 ≤ x ∧ x < i ∧ 0 ≤ isoA f.Target (el f.Objects x) y)) (by omega) (by omega) ?_ ?_ ?_
    · exact (decide_eq_false fun ⟨x, x0, x1, _⟩ => by omega).symm
    · rintro i b nx i0 i1 rfl hnx
      dsimp only
      rw [if_pos (decide_eq_true i1)]
      refine Ret.ite (fun hb => hnx _ ?_) (fun hb => Ret.idx i0 i1 (Ret.call (l06Alike_eq ht _ _) (hnx _ ?_)))
      · obtain ⟨x, x0, x1, hx⟩ := of_decide_eq_true hb
        exact (decide_eq_true ⟨x, x0, by omega, hx⟩).symm
      · have hb' : ¬ ∃ x, 0 ≤ x ∧ x < i ∧ 0 ≤ isoA f.Target (el f.Objects x) y := fun z => hb (decide_eq_true z)
        rw [decide_eq_decide]
        constructor
        · intro z; exact ⟨i, i0, by omega, z⟩
        · rintro ⟨x, x0, x1, hx⟩
          by_cases e : x = i
          · subst e; exact hx
          · exact absurd ⟨x, x0, by omega, hx⟩ hb'
    · rintro b nx rfl
      dsimp only
      rw [if_neg (by simp)]
      refine Ret.ite (fun hb => hn (of_decide_eq_true hb)) (fun hb => Ret.some ?_)
      rw [decide_eq_false (fun z : SurjP f => hb (decide_eq_true (z y y0 y1)))]
  · intro next hp
    rw [if_neg (by simp)]
    exact Ret.some (decide_eq_true (show SurjP f from hp)).symm
theorem isSurj_eq (h : IsFun f) : M.impl_Functor_isEssentiallySurjective f = some (decide (SurjP f)) := by
  apply Ret.eq
  have ht := h.2.1.1.shp
  have n8 := h.1.1.shp.n8
  have n0 := ht.n0
  have t8 := ht.n8
  have lo := h.2.2.lo
  unfold M.impl_Functor_isEssentiallySurjective
  refine Ret.all f.Target.Objects (fun y => ∃ x, 0 ≤ x ∧ x < (f.Objects.length : Int) ∧ 0 ≤ isoA f.Target (el f.Objects x) y) n0 (by omega) ?_ ?_
  · intro y next y0 y1 hp hn
    rw [if_pos (decide_eq_true y1)]
    refine Ret.all (f.Objects.length : Int) (fun x => ¬ 0 ≤ isoA f.Target (el f.Objects x) y) (by omega) (by omega) ?_ ?_
    · intro i nx i0 i1 hq hnx
      rw [if_pos (decide_eq_true i1)]
      exact Ret.idx i0 i1 (Ret.call (isomorphic_eq ht _ _) (Ret.ite (fun hb => hn ⟨i, i0, i1, of_decide_eq_true hb⟩) (fun hb => hnx fun z => hb (decide_eq_true z))))
    · intro nx hq
      rw [if_neg (by simp)]
      refine Ret.some ?_
      rw [decide_eq_false]
      intro z
      obtain ⟨x, x0, x1, hx⟩ := z y y0 y1
      exact hq x x0 x1 hx
  · intro next hp
    rw [if_neg (by simp)]
    exact Ret.some (decide_eq_true (show SurjP f from hp)).symm

/-! ### what leads back -/
/-- The first object that is sent to one like y. -/
noncomputable def prX (f : XFunctor) (y : Int) : Int := ((tab f.Source.Objects fun x => x).find? fun x => decide (0 ≤ isoA f.Target (el f.Objects x) y)).getD (-1)
noncomputable def prI (f : XFunctor) (y : Int) : Int := isoA f.Target (el f.Objects (prX f y)) y
/-- The first arrow from x to y that is sent to g. -/
noncomputable def befA (f : XFunctor) (x y g : Int) : Int := ((homL f.Source x y).find? fun a => el f.Arrows a == g).getD (-1)
noncomputable def imgA (f : XFunctor) (h : Int) : Int := cmp f.Target (cmp f.Target (prI f (el f.Target.From h)) h) (invA f.Target (prI f (el f.Target.To h)))
noncomputable def quaF (f : XFunctor) : XFunctor :=
  ⟨f.Target, f.Source, tab f.Target.Objects (prX f), tab (f.Target.From.length : Int) fun h => befA f (prX f (el f.Target.From h)) (prX f (el f.Target.To h)) (imgA f h)⟩

theorem prX_find {i y : Int} (i0 : 0 ≤ i) (i1 : i < f.Source.Objects) (hi : 0 ≤ isoA f.Target (el f.Objects i) y) (hn : ∀ j, 0 ≤ j → j < i → ¬ 0 ≤ isoA f.Target (el f.Objects j) y) : prX f y = i := by
  have L : (((tab f.Source.Objects fun x => x).length : Nat) : Int) = f.Source.Objects := by rw [tab_length]; omega
  have := find_at (l := tab f.Source.Objects fun x => x) (p := fun x => decide (0 ≤ isoA f.Target (el f.Objects x) y)) i0 (by omega) (by rw [el_tab i0 i1]; exact decide_eq_true hi) (fun j j0 j1 => by
    rw [el_tab j0 (by omega)]; exact decide_eq_false (hn j j0 j1))
  unfold prX
  rw [this, el_tab i0 i1]; rfl
theorem prX_in (h : IsFun f) (hs : SurjP f) {y : Int} (y0 : 0 ≤ y) (y1 : y < f.Target.Objects) : (0 ≤ prX f y ∧ prX f y < f.Source.Objects) ∧ 0 ≤ prI f y := by
  obtain ⟨x, x0, x1, hx⟩ := hs y y0 y1
  have lo := h.2.2.lo
  obtain ⟨k, k0, k1, hk, hn⟩ := least (p := fun x => 0 ≤ isoA f.Target (el f.Objects x) y) x.toNat (by rw [show ((x.toNat : Nat) : Int) = x by omega]; exact hx)
  have e := prX_find (f := f) k0 (by omega) hk hn
  unfold prI
  rw [e]
  exact ⟨⟨k0, by omega⟩, hk⟩

theorem l11Pair_eq (h : IsFun f) (hs : SurjP f) {y : Int} (y0 : 0 ≤ y) (y1 : y < f.Target.Objects) : M.spec_l11Pair f y = some (prX f y, prI f y) := by
  apply Ret.eq
  have ht := h.2.1.1.shp
  have n0 := h.1.1.shp.n0
  have n8 := h.1.1.shp.n8
  have lo := h.2.2.lo
  unfold M.spec_l11Pair
  refine Ret.all f.Source.Objects (fun x => ¬ 0 ≤ isoA f.Target (el f.Objects x) y) n0 (by omega) ?_ ?_
  · intro i next i0 i1 hp hn
    rw [if_pos (decide_eq_true i1)]
    refine Ret.idx i0 (by omega) (Ret.call (l11Least_eq ht _ _) (Ret.ite (fun hb => Ret.some ?_) (fun hb => hn fun z => hb (decide_eq_true z))))
    have e := prX_find (f := f) i0 i1 (of_decide_eq_true hb) hp
    unfold prI
    rw [e]
  · intro next hp
    obtain ⟨x, x0, x1, hx⟩ := hs y y0 y1
    exact absurd hx (hp x x0 (by omega))

theorem l11Before_eq (h : IsFun f) (x y g : Int) : M.spec_l11Before f x y g = some (befA f x y g) := by
  apply Ret.eq
  have hs := h.1.1.shp
  have la := h.2.2.la
  unfold M.spec_l11Before
  refine Ret.call (l02Hom_eq hs _ _) ?_
  refine find_loop (l := homL f.Source x y) (p := fun a => el f.Arrows a == g) (homL_small hs x y) ?_ ?_
  · intro i next i0 i1 hn hy
    have m := homL_mem.1 (el_mem i0 i1)
    rw [if_pos (decide_eq_true i1)]
    refine Ret.idx i0 i1 (Ret.idx m.1 (by omega) (Ret.ite (fun e => Ret.some ?_) (fun e => hn (Bool.eq_false_iff.2 e))))
    unfold befA; rw [hy e]; rfl
  · intro next hno
    rw [if_neg (by simp)]
    refine Ret.some ?_
    unfold befA; rw [hno]; rfl

theorem img_ar (h : IsFun f) (hs : SurjP f) {a : Int} (a0 : 0 ≤ a) (a1 : a < (f.Target.From.length : Int)) :
    Ar f.Target (prI f (el f.Target.From a)) (el f.Objects (prX f (el f.Target.From a))) (el f.Target.From a) ∧ Ar f.Target (cmp f.Target (prI f (el f.Target.From a)) a) (el f.Objects (prX f (el f.Target.From a))) (el f.Target.To a) ∧
    Ar f.Target (prI f (el f.Target.To a)) (el f.Objects (prX f (el f.Target.To a))) (el f.Target.To a) ∧ Ar f.Target (invA f.Target (prI f (el f.Target.To a))) (el f.Target.To a) (el f.Objects (prX f (el f.Target.To a))) ∧
    Ar f.Target (imgA f a) (el f.Objects (prX f (el f.Target.From a))) (el f.Objects (prX f (el f.Target.To a))) := by
  have ht := h.2.1.1.shp
  have s := ht.from_in a a0 a1
  have t := ht.to_in a a0 a1
  have p1 := prX_in h hs s.1 s.2
  have p2 := prX_in h hs t.1 t.2
  have q1 := isoA_yes p1.2
  have q2 := isoA_yes p2.2
  have r := invA_ar q2.1 q2.2
  have c1 := q1.1.comp ht (Ar.of a0 a1)
  exact ⟨q1.1, c1, q2.1, r.1, c1.comp ht r.1⟩

theorem l11Quasi_eq (sf : SmallF f) (h : IsFun f) (hs : SurjP f) : M.spec_l11Quasi f = some (quaF f, tab f.Target.Objects (prI f)) := by
  apply Ret.eq
  have ht := h.2.1.1.shp
  have n0 := ht.n0
  have n8 := ht.n8
  have m40 := ht.m40
  have lt := ht.lto
  unfold M.spec_l11Quasi
  refine Ret.loop f.Target.Objects (fun i s => s = (tab i (prX f), tab i (prI f), i)) n0 (by omega) rfl ?_ ?_
  · rintro i s next i0 i1 rfl hn
    have e1 : (((tab i (prX f)).length : Nat) : Int) = i := by rw [tab_length]; omega
    have e2 : (((tab i (prI f)).length : Nat) : Int) = i := by rw [tab_length]; omega
    dsimp only
    rw [if_pos (decide_eq_true i1)]
    refine Ret.call (l11Pair_eq h hs i0 i1) (Ret.chk (by unfold lim; simp only [List.length_cons, List.length_nil]; omega) (Ret.chk (by unfold lim; simp only [List.length_cons, List.length_nil]; omega) (hn _ ?_)))
    rw [tab_succ _ i0, tab_succ _ i0, wrap_in (by omega) (by omega)]
  rintro s next rfl
  dsimp only
  rw [if_neg (by simp)]
  have e1 : (((tab f.Target.Objects (prX f)).length : Nat) : Int) = f.Target.Objects := by rw [tab_length]; omega
  have e2 : (((tab f.Target.Objects (prI f)).length : Nat) : Int) = f.Target.Objects := by rw [tab_length]; omega
  refine Ret.acc (f.Target.From.length : Int) (fun i s => s = tab i fun h => befA f (prX f (el f.Target.From h)) (prX f (el f.Target.To h)) (imgA f h)) (by omega) (by omega) rfl ?_ ?_
  · rintro i s next i0 i1 rfl hn
    have e3 : (((tab i fun h => befA f (prX f (el f.Target.From h)) (prX f (el f.Target.To h)) (imgA f h)).length : Nat) : Int) = i := by rw [tab_length]; omega
    have sx := ht.from_in i i0 i1
    have tx := ht.to_in i i0 i1
    obtain ⟨b1, b2, b3, b4, b5⟩ := img_ar h hs i0 i1
    dsimp only
    rw [if_pos (decide_eq_true i1)]
    refine Ret.idx i0 i1 (Ret.idx i0 (by omega) (Ret.idx sx.1 (by omega) ?_))
    rw [el_tab sx.1 sx.2]
    refine Ret.call (b1.th ht (Ar.of i0 i1)) (Ret.idx tx.1 (by omega) ?_)
    rw [el_tab tx.1 tx.2]
    refine Ret.call (l02Inverse_eq ht b3.p b3.q) (Ret.call (b2.th ht b4) (Ret.idx sx.1 (by omega) (Ret.idx tx.1 (by omega) ?_)))
    rw [el_tab sx.1 sx.2, el_tab tx.1 tx.2]
    exact Ret.call (l11Before_eq h _ _ _) (Ret.chk (by unfold lim; simp only [List.length_cons, List.length_nil]; omega) (hn _ (tab_succ (fun h => befA f (prX f (el f.Target.From h)) (prX f (el f.Target.To h)) (imgA f h)) i0).symm))
  · rintro s next rfl
    have e3 : (((tab (f.Target.From.length : Int) fun h => befA f (prX f (el f.Target.From h)) (prX f (el f.Target.To h)) (imgA f h)).length : Nat) : Int) = (f.Target.From.length : Int) := by rw [tab_length]; omega
    dsimp only
    rw [if_neg (by simp)]
    exact Ret.call (l06Make_eq sf.s2 sf.s1 (by unfold Small; omega) (by unfold Small; omega)) (Ret.some rfl)

theorem inverse2_eq (sf : SmallF f) (h : IsFun f) (hf : FullP f) (hs : SurjP f) : M.impl_equivalence_inverse (⟨f⟩ : Xequivalence) = some (quaF f, tab f.Target.Objects (prI f)) := by
  apply Ret.eq
  have hS := h.1.1.shp
  have ht := h.2.1.1.shp
  have n0 := ht.n0
  have n8 := ht.n8
  have s8 := hS.n8
  have m40 := ht.m40
  have lt := ht.lto
  have lo := h.2.2.lo
  have la := h.2.2.la
  unfold M.impl_equivalence_inverse
  dsimp only
  refine Ret.loop f.Target.Objects (fun i s => s = (tab i (prX f), tab i (prI f), i)) n0 (by omega) rfl ?_ ?_
  · rintro i s next i0 i1 rfl hn
    have e1 : (((tab i (prX f)).length : Nat) : Int) = i := by rw [tab_length]; omega
    have e2 : (((tab i (prI f)).length : Nat) : Int) = i := by rw [tab_length]; omega
    dsimp only
    rw [if_pos (decide_eq_true i1)]
    refine Ret.all (f.Objects.length : Int) (fun x => ¬ 0 ≤ isoA f.Target (el f.Objects x) i) (by omega) (by omega) ?_ ?_
    · intro x nx x0 x1 hp hnx
      rw [if_pos (decide_eq_true x1)]
      refine Ret.idx x0 x1 (Ret.call (isomorphic_eq ht _ _) (Ret.ite (fun hb => ?_) (fun hb => hnx fun z => hb (decide_eq_true z))))
      refine Ret.chk (by unfold lim; simp only [List.length_cons, List.length_nil]; omega) (Ret.chk (by unfold lim; simp only [List.length_cons, List.length_nil]; omega) (hn _ ?_))
      have e := prX_find (f := f) x0 (by omega) (of_decide_eq_true hb) hp
      rw [tab_succ _ i0, tab_succ _ i0, wrap_in (by omega) (by omega)]
      unfold prI
      rw [e]
    · intro nx hp
      obtain ⟨x, x0, x1, hx⟩ := hs i i0 i1
      exact absurd hx (hp x x0 x1)
  rintro s next rfl
  dsimp only
  rw [if_neg (by simp)]
  have e1 : (((tab f.Target.Objects (prX f)).length : Nat) : Int) = f.Target.Objects := by rw [tab_length]; omega
  have e2 : (((tab f.Target.Objects (prI f)).length : Nat) : Int) = f.Target.Objects := by rw [tab_length]; omega
  refine Ret.acc (f.Target.From.length : Int) (fun i s => s = tab i fun h => befA f (prX f (el f.Target.From h)) (prX f (el f.Target.To h)) (imgA f h)) (by omega) (by omega) rfl ?_ ?_
  · rintro i s next i0 i1 rfl hn
    have e3 : (((tab i fun h => befA f (prX f (el f.Target.From h)) (prX f (el f.Target.To h)) (imgA f h)).length : Nat) : Int) = i := by rw [tab_length]; omega
    have sx := ht.from_in i i0 i1
    have tx := ht.to_in i i0 i1
    obtain ⟨b1, b2, b3, b4, b5⟩ := img_ar h hs i0 i1
    dsimp only
    rw [if_pos (decide_eq_true i1)]
    refine Ret.idx i0 i1 (Ret.idx i0 (by omega) (Ret.idx sx.1 (by omega) ?_))
    rw [el_tab sx.1 sx.2]
    refine Ret.call (b1.ti ht (Ar.of i0 i1)) (Ret.idx tx.1 (by omega) ?_)
    rw [el_tab tx.1 tx.2]
    refine Ret.call (inverse_eq ht b3.p b3.q) (Ret.call (b2.ti ht b4) (Ret.idx sx.1 (by omega) (Ret.idx tx.1 (by omega) ?_)))
    rw [el_tab sx.1 sx.2, el_tab tx.1 tx.2]
    refine Ret.call (hom_eq hS _ _) ?_
    refine find_loop (l := homL f.Source (prX f (el f.Target.From i)) (prX f (el f.Target.To i))) (p := fun a => el f.Arrows a == imgA f i) (homL_small hS _ _) ?_ ?_
    · intro k nx k0 k1 hnx hy
      have m := homL_mem.1 (el_mem k0 k1)
      rw [if_pos (decide_eq_true k1)]
      refine Ret.idx k0 k1 (Ret.idx m.1 (by omega) (Ret.ite (fun e => Ret.chk (by unfold lim; simp only [List.length_cons, List.length_nil]; omega) (hn _ ?_)) (fun e => hnx (Bool.eq_false_iff.2 e))))
      rw [tab_succ _ i0]
      have : befA f (prX f (el f.Target.From i)) (prX f (el f.Target.To i)) (imgA f i) = el (homL f.Source (prX f (el f.Target.From i)) (prX f (el f.Target.To i))) k := by
        unfold befA; rw [hy e]; rfl
      rw [this]
    · intro nx hno
      exfalso
      have px := prX_in h hs sx.1 sx.2
      have py := prX_in h hs tx.1 tx.2
      obtain ⟨k, k0, k1, hk⟩ := mem_el (ar_hom b5)
      have hin := hf _ px.1.1 px.1.2 _ py.1.1 py.1.2 k k0 k1
      rw [hk] at hin
      obtain ⟨q, q0, q1, hq⟩ := mem_el hin
      unfold thenL at q1 hq
      have Lq : (((tab ((homL f.Source (prX f (el f.Target.From i)) (prX f (el f.Target.To i))).length : Int) fun i_1 => el f.Arrows (el (homL f.Source (prX f (el f.Target.From i)) (prX f (el f.Target.To i))) i_1)).length : Nat) : Int) = ((homL f.Source (prX f (el f.Target.From i)) (prX f (el f.Target.To i))).length : Int) := by rw [tab_length]; omega
      rw [el_tab q0 (by omega)] at hq
      rw [List.find?_eq_none] at hno
      exact hno _ (el_mem q0 (by omega)) (by simpa using hq)
  · rintro s next rfl
    have e3 : (((tab (f.Target.From.length : Int) fun h => befA f (prX f (el f.Target.From h)) (prX f (el f.Target.To h)) (imgA f h)).length : Nat) : Int) = (f.Target.From.length : Int) := by rw [tab_length]; omega
    dsimp only
    rw [if_neg (by simp)]
    exact Ret.call (functor_eq sf.s2 sf.s1 (by unfold Small; omega) (by unfold Small; omega)) (Ret.some rfl)
end

theorem QuasiInverse_both {f : XFunctor} (sf : SmallF f) : ∃ g0 g1 w, SmallF g0 ∧ Small g1 ∧ M.spec_QuasiInverse f = some (g0, g1, w) ∧ M.impl_QuasiInverse f = some (g0, g1, w) := by
  by_cases h : IsFun f
  · have n0 := h.2.1.1.shp.n0
    have n8 := h.2.1.1.shp.n8
    have m40 := h.2.1.1.shp.m40
    have e1 : M.spec_l11Equivalence f = some (decide (FullP f ∧ FaithP f ∧ SurjP f)) := by
      unfold M.spec_l11Equivalence
      rw [l06Full_eq h, l06Faithful_eq h, l06Surjective_eq h]
      by_cases a : FullP f <;> by_cases b : FaithP f <;> by_cases c : SurjP f <;> simp [a, b, c]
    have e2 : M.impl_Functor_isEquivalence f = some (decide (FullP f ∧ FaithP f ∧ SurjP f)) := by
      unfold M.impl_Functor_isEquivalence
      rw [isFull_eq h, isFaithful_eq h, isSurj_eq h]
      by_cases a : FullP f <;> by_cases b : FaithP f <;> by_cases c : SurjP f <;> simp [a, b, c]
    by_cases q : FullP f ∧ FaithP f ∧ SurjP f
    · refine ⟨quaF f, tab f.Target.Objects (prI f), 0, ⟨sf.s2, sf.s1, ?_, ?_⟩, ?_, ?_, ?_⟩
      · show (((tab f.Target.Objects (prX f)).length : Nat) : Int) ≤ _
        rw [tab_length]; omega
      · unfold quaF Small
        dsimp only
        rw [tab_length]; omega
      · show (((tab f.Target.Objects (prI f)).length : Nat) : Int) ≤ _
        rw [tab_length]; omega
      · unfold M.spec_QuasiInverse
        rw [l06Is_eq sf, decide_eq_true h, Option.bind_some, if_pos rfl, e1, decide_eq_true q, Option.bind_some, if_pos rfl, l11Quasi_eq sf h q.2.2]; rfl
      · unfold M.impl_QuasiInverse
        rw [isFunctor_eq sf, decide_eq_true h, Option.bind_some, if_pos rfl, e2, decide_eq_true q, Option.bind_some, if_pos rfl, inverse2_eq sf h q.1 q.2.2]; rfl
    · refine ⟨zeroF, [], 5, zeroF_small, by simp [Small], ?_, ?_⟩
      · unfold M.spec_QuasiInverse
        rw [l06Is_eq sf, decide_eq_true h, Option.bind_some, if_pos rfl, e1, decide_eq_false q]; rfl
      · unfold M.impl_QuasiInverse
        rw [isFunctor_eq sf, decide_eq_true h, Option.bind_some, if_pos rfl, e2, decide_eq_false q]; rfl
  · refine ⟨zeroF, [], 1, zeroF_small, by simp [Small], ?_, ?_⟩
    · unfold M.spec_QuasiInverse
      rw [l06Is_eq sf, decide_eq_false h]; rfl
    · unfold M.impl_QuasiInverse
      rw [isFunctor_eq sf, decide_eq_false h]; rfl

theorem law_QuasiInverse {a0 : XFunctor} (h0 : R.XFunctor a0) : M.laws_FnExactQuasiInverse a0 = some true := by
  unfold M.laws_FnExactQuasiInverse
  obtain ⟨v0, e0, hv0⟩ := szFunctor_r (n := 1048576) (by decide) (by decide) (fitsF h0)
  rw [e0, Option.bind_some]
  rcases hv0 with ⟨z0, _⟩ | ⟨l0, u0, s0⟩
  · rw [if_pos (decide_eq_true z0)]
  · rw [if_neg (fun h => absurd (of_decide_eq_true h) (by omega))]
    rw [toFunctor_eq s0, Option.bind_some]
    obtain ⟨g0, g1, w, hg0, hg1, es, ei⟩ := QuasiInverse_both s0
    rw [es, ei]
    simp only [Option.bind_some]
    rw [eqFunctor_refl hg0, eqInt64S_refl hg1, eqFunctor_refl s0]
    obtain ⟨n0, x0, p0, q0, c0, d0, _⟩ := mh_F s0 1 (by omega) (by omega)
    obtain ⟨n1, x1, p1, q1, c1, d1, _⟩ := mh_F hg0 1 (by omega) (by omega)
    obtain ⟨n2, x2, p2, q2, c2, d2, _⟩ := mh_S hg1 (1 + n1) (by omega) (by omega)
    simp only [Option.bind_some, bne_self_eq_false, Bool.false_eq_true, if_false, if_true, decide_eq_true_eq, c0, c1, c2, d1, d2]
    rw [if_neg (by omega), if_neg (by omega), if_neg (by omega)]

end Go.Gx

/- The law of HomProfunctor. -/
namespace Go.Gx
open Classical
set_option maxHeartbeats 1000000

/-! ### marks on lists of lists of lists -/
def rS (x : List (List Int)) (k : Int) : Int × List (List Int) := (M.laws_markInt64SS x k).getD (0, [])
def ksN (l : List (List (List Int))) (k : Int) : Nat → Int
  | 0 => k
  | i + 1 => (rS (el l (i : Int)) (ksN l k i)).1
def ks (l : List (List (List Int))) (k i : Int) : Int := ksN l k i.toNat
def SmallR (r : List (List Int)) : Prop := Small r ∧ ∀ q ∈ r, Small q

structure SmallP (p : XProfunctor) : Prop where
  s1 : SmallC p.Source
  s2 : SmallC p.Target
  s3 : SmallR p.Sizes
  l4 : (p.Before.length : Int) ≤ 1024
  s4 : ∀ r ∈ p.Before, SmallR r
  l5 : (p.Behind.length : Int) ≤ 1024
  s5 : ∀ r ∈ p.Behind, SmallR r

/-! ### the identity -/
end Go.Gx

/- Plain laws: set functors. -/
namespace Go.Gx
open Classical
set_option maxHeartbeats 4000000

structure SmallG (F : XSetFunctor) : Prop where
  s1 : SmallC F.Shape
  s2 : Small F.Sizes
  s3 : Small F.Actions
  s4 : ∀ r ∈ F.Actions, Small r
structure FitsG (F : XSetFunctor) : Prop where
  f1 : FitsC F.Shape
  f2 : Fits F.Sizes
  f3 : Fits F.Actions
  f4 : ∀ r ∈ F.Actions, Fits r
/-! ### which are set functors -/
def ActOk (F : XSetFunctor) (a : Int) : Prop := ((el F.Actions a).length : Int) = el F.Sizes (el F.Shape.From a) ∧ In (el F.Sizes (el F.Shape.To a)) (el F.Actions a)
structure ShpG (F : XSetFunctor) : Prop where
  cat : IsCat F.Shape
  ls : (F.Sizes.length : Int) = F.Shape.Objects
  la : (F.Actions.length : Int) = (F.Shape.From.length : Int)
  siz : ∀ i, 0 ≤ i → i < (F.Sizes.length : Int) → 0 ≤ el F.Sizes i ∧ el F.Sizes i ≤ 16
  act : ∀ a, 0 ≤ a → a < (F.Actions.length : Int) → ActOk F a

/-- The image of e under the action of a. -/
abbrev act (F : XSetFunctor) (a e : Int) : Int := el (el F.Actions a) e
def UnitG (F : XSetFunctor) : Prop := ∀ x, 0 ≤ x → x < F.Shape.Objects → ∀ e, 0 ≤ e → e < el F.Sizes x → act F (el F.Shape.Identity x) e = e
def CompG (F : XSetFunctor) : Prop := ∀ f, 0 ≤ f → f < (F.Shape.From.length : Int) → ∀ g, 0 ≤ g → g < (F.Shape.From.length : Int) → el F.Shape.To f = el F.Shape.From g →
  ∀ e, 0 ≤ e → e < el F.Sizes (el F.Shape.From f) → act F (cmp F.Shape f g) e = act F g (act F f e)

def IsSet (F : XSetFunctor) : Prop := ShpG F ∧ UnitG F ∧ CompG F

end Go.Gx

/- The law of SumSets. -/
namespace Go.Gx
open Classical
set_option maxHeartbeats 2000000

/-- Two set functors on one shape. -/
structure TwoG (F G : XSetFunctor) : Prop where
  f : IsSet F
  g : IsSet G
  e : F.Shape = G.Shape

/-- What the indices need. -/
theorem TwoG.sz {F G : XSetFunctor} (h : TwoG F G) {x : Int} (x0 : 0 ≤ x) (x1 : x < (F.Sizes.length : Int)) :
    x < (G.Sizes.length : Int) ∧ (0 ≤ el F.Sizes x ∧ el F.Sizes x ≤ 16) ∧ (0 ≤ el G.Sizes x ∧ el G.Sizes x ≤ 16) := by
  have l1 := h.f.1.ls
  have l2 := h.g.1.ls
  rw [← h.e] at l2
  exact ⟨by omega, h.f.1.siz x x0 x1, h.g.1.siz x x0 (by omega)⟩
theorem TwoG.ac {F G : XSetFunctor} (h : TwoG F G) {a : Int} (a0 : 0 ≤ a) (a1 : a < (F.Actions.length : Int)) :
    a < (G.Actions.length : Int) ∧ a < (F.Shape.To.length : Int) ∧ (0 ≤ el F.Shape.To a ∧ el F.Shape.To a < (F.Sizes.length : Int)) ∧ ((el F.Actions a).length : Int) ≤ 16 ∧ ((el G.Actions a).length : Int) ≤ 16 ∧
    ∀ i, 0 ≤ i → i < ((el G.Actions a).length : Int) → 0 ≤ el (el G.Actions a) i ∧ el (el G.Actions a) i ≤ 1048576 := by
  have l1 := h.f.1.la
  have l2 := h.g.1.la
  have l3 := h.f.1.ls
  have l4 := h.g.1.ls
  have e := h.e
  rw [← e] at l2 l4
  have hc := h.f.1.cat.1.shp
  have lt := hc.lto
  have t := hc.to_in a a0 (by omega)
  have s := hc.from_in a a0 (by omega)
  have f1 := (h.f.1.act a a0 a1).1
  have g1 := (h.g.1.act a a0 (by omega)).1
  have g2 := (h.g.1.act a a0 (by omega)).2
  rw [← e] at g1 g2
  have z1 := h.f.1.siz _ s.1 (by omega)
  have z2 := h.g.1.siz _ s.1 (by omega)
  have z3 := h.g.1.siz _ t.1 (by omega)
  refine ⟨by omega, by omega, ⟨t.1, by omega⟩, by omega, by omega, fun i i0 i1 => ?_⟩
  have := g2 i i0 i1
  omega

end Go.Gx

/- Plain laws: profunctors with a limit; loops that lay lists one behind the other. -/
namespace Go.Gx
open Classical
set_option maxHeartbeats 1000000

/-! ### lists one behind the other -/
def cat (n : Int) (H : Int → List Int) : List Int := (tab n H).flatten
end Go.Gx
