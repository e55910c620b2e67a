/- Laid together: part 1. -/
import Derived.Test.YthafadgnjkmfkaaGxEP0
import Derived.Test.YthafadgnjkmfkaaGxEM0
/- Plain laws: products of categories. -/
namespace Go.Gx
open Classical
set_option maxHeartbeats 2000000

theorem mulb {i j n m : Int} (i0 : 0 ≤ i) (h : i < n) (h0 : 0 ≤ j) (h1 : j < m) : 0 ≤ i * m ∧ i * m + j < n * m ∧ i * m + m ≤ n * m := by
  have e1 : (i + 1) * m ≤ n * m := Int.mul_le_mul_of_nonneg_right (by omega) (by omega)
  rw [Int.add_mul, Int.one_mul] at e1
  have e2 := Int.mul_nonneg i0 (show 0 ≤ m by omega)
  omega
theorem mulB {n m N M : Int} (h0 : 0 ≤ n) (h1 : n ≤ N) (h2 : 0 ≤ m) (h3 : m ≤ M) : 0 ≤ n * m ∧ n * m ≤ N * M :=
  ⟨Int.mul_nonneg h0 h2, Int.mul_le_mul h1 h3 h2 (by omega)⟩
theorem parts {k n m : Int} (h0 : 0 ≤ k) (h1 : k < n * m) (hm : 0 ≤ m) : 0 < m ∧ 0 ≤ k / m ∧ k / m < n ∧ 0 ≤ k % m ∧ k % m < m := by
  have hm : 0 < m := by
    rcases Int.lt_or_eq_of_le hm with h | h
    · exact h
    · rw [← h, Int.mul_zero] at h1; omega
  exact ⟨hm, Int.ediv_nonneg h0 (by omega), Int.ediv_lt_of_lt_mul hm h1, Int.emod_nonneg _ (by omega), Int.emod_lt_of_pos _ hm⟩
/-- Two numbers as one, over all pairs. -/
abbrev tab2 {α : Type} (n m : Int) (f : Int → Int → α) : List α := tab (n * m) fun k => f (k / m) (k % m)
theorem tab_len' (n : Int) {α : Type} (f : Int → α) (h : 0 ≤ n) : ((tab n f).length : Int) = n := by rw [tab_length]; omega

end Go.Gx

/- Plain laws: the product as impl makes it; projections. -/
namespace Go.Gx
open Classical
set_option maxHeartbeats 2000000

end Go.Gx

/- Plain laws: pairs of lists; products of functors. -/
namespace Go.Gx
open Classical
set_option maxHeartbeats 1000000

abbrev pairF (a b : List Int) (n : Int) (i j : Int) : Int := el a i * n + el b j
def pairL (a b : List Int) (n : Int) : List Int := tab2 (a.length : Int) (b.length : Int) (pairF a b n)
/-- Codes of pairs are small numbers. -/
structure PairOk (a b : List Int) (n A : Int) : Prop where
  hA : A ≤ 40
  hn : n ≤ 40
  la : (a.length : Int) ≤ 40
  lb : (b.length : Int) ≤ 40
  ia : In A a
  ib : In n b

theorem PairOk.len {a b : List Int} {n A : Int} (h : PairOk a b n A) {i j : Int} (i0 : 0 ≤ i) (i1 : i < (a.length : Int)) (j0 : 0 ≤ j) (j1 : j < (b.length : Int)) (F : Int → Int) :
    ((tab (i * (b.length : Int) + j) F).length : Int) ≤ 1600 := by
  have hb1 := mulb i0 i1 j0 j1
  have hB := mulB (n := (a.length : Int)) (m := (b.length : Int)) (N := 40) (M := 40) (by omega) h.la (by omega) h.lb
  rw [tab_len' _ _ (by omega)]; omega
theorem PairOk.small {a b : List Int} {n A : Int} (h : PairOk a b n A) : Small (pairL a b n) := by
  have hB := mulB (n := (a.length : Int)) (m := (b.length : Int)) (N := 40) (M := 40) (by omega) h.la (by omega) h.lb
  unfold Small pairL; rw [tab_len' _ _ hB.1]; omega

end Go.Gx

/- The law of InverseFunctor. -/
namespace Go.Gx
open Classical
set_option maxHeartbeats 1000000

end Go.Gx

/- Plain laws: places in lists; full parts of a category. -/
namespace Go.Gx
open Classical
set_option maxHeartbeats 1000000

/-! ### places -/
theorem indexL_at {l : List Int} (hl : Small l) {i : Int} (i0 : 0 ≤ i) (i1 : i < (l.length : Int)) (hn : ∀ j, 0 ≤ j → j < i → el l j ≠ el l i) : indexL l (el l i) = i := by
  have h : Ret (M.spec_l01Index l (el l i)) fun r => r = i := by
    unfold M.spec_l01Index
    simp only [beq_iff_eq]
    refine Ret.all (l.length : Int) (fun j => el l j ≠ el l i) (by omega) (by omega) ?_ ?_
    · intro j next j0 j1 hp hn1
      rw [if_pos (decide_eq_true j1)]
      refine Ret.idx j0 j1 (Ret.ite (fun h => Ret.some ?_) (fun h => hn1 h))
      rcases Int.lt_trichotomy j i with h1 | h1 | h1
      · exact absurd h (hn j j0 h1)
      · exact h1
      · exact absurd rfl (hp i i0 h1)
    · intro next hp
      exact absurd rfl (hp i i0 i1)
  rw [l01Index_eq hl] at h
  obtain ⟨r, e, rfl⟩ := h
  exact Option.some.inj e
theorem indexL_no {l : List Int} (hl : Small l) {v : Int} (hv : v ∉ l) : indexL l v = -1 := by
  have h : Ret (M.spec_l01Index l v) fun r => r = -1 := by
    unfold M.spec_l01Index
    simp only [beq_iff_eq]
    refine Ret.all (l.length : Int) (fun _ => True) (by omega) (by omega) ?_ ?_
    · intro j next j0 j1 hp hn1
      rw [if_pos (decide_eq_true j1)]
      refine Ret.idx j0 j1 (Ret.ite (fun h => absurd (h ▸ el_mem j0 j1) hv) (fun h => hn1 trivial))
    · intro next hp
      rw [if_neg (by simp)]
      exact Ret.some rfl
  rw [l01Index_eq hl] at h
  obtain ⟨r, e, rfl⟩ := h
  exact Option.some.inj e
theorem nodup_el {l : List Int} (h : l.Nodup) {i j : Int} (i0 : 0 ≤ i) (i1 : i < (l.length : Int)) (j0 : 0 ≤ j) (j1 : j < (l.length : Int)) (e : el l i = el l j) : i = j := by
  have hp := List.pairwise_iff_getElem.1 (show List.Pairwise (fun a b : Int => a ≠ b) l from h)
  have ei : el l i = l[i.toNat]'(by omega) := by
    have := el_get (l := l) (k := i.toNat) (by omega)
    rwa [show ((i.toNat : Nat) : Int) = i by omega] at this
  have ej : el l j = l[j.toNat]'(by omega) := by
    have := el_get (l := l) (k := j.toNat) (by omega)
    rwa [show ((j.toNat : Nat) : Int) = j by omega] at this
  rcases Int.lt_trichotomy i j with h1 | h1 | h1
  · exact absurd (by rw [← ei, ← ej]; exact e) (hp i.toNat j.toNat (by omega) (by omega) (by omega))
  · exact h1
  · exact absurd (by rw [← ei, ← ej]; exact e.symm) (hp j.toNat i.toNat (by omega) (by omega) (by omega))
theorem indexL_el {l : List Int} (hl : Small l) (h : l.Nodup) {i : Int} (i0 : 0 ≤ i) (i1 : i < (l.length : Int)) : indexL l (el l i) = i :=
  indexL_at hl i0 i1 fun j j0 j1 e => by have := nodup_el h j0 (by omega) i0 i1 e; omega
theorem indexL_in {l : List Int} (hl : Small l) (h : l.Nodup) {v : Int} (hv : v ∈ l) : (0 ≤ indexL l v ∧ indexL l v < (l.length : Int)) ∧ el l (indexL l v) = v := by
  obtain ⟨i, i0, i1, rfl⟩ := mem_el hv
  rw [indexL_el hl h i0 i1]
  exact ⟨⟨i0, i1⟩, rfl⟩

theorem fil_more {i : Int} (p : Int → Bool) (h : 0 ≤ i) : ∀ k : Nat, ∃ t, fil (i + (k : Int)) p = fil i p ++ t
  | 0 => ⟨[], by simp⟩
  | k + 1 => by
    obtain ⟨t, e⟩ := fil_more p h k
    rw [show i + ((k + 1 : Nat) : Int) = (i + (k : Int)) + 1 by omega, fil_succ p (by omega), e]
    exact ⟨t ++ _, by rw [List.append_assoc]⟩
/-- Where a number that passes lies. -/
theorem fil_place {n i : Int} (p : Int → Bool) (i0 : 0 ≤ i) (i1 : i < n) (hp : p i = true) (hn : n ≤ 1048576) : indexL (fil n p) i = ((fil i p).length : Int) := by
  obtain ⟨t, e⟩ := fil_more p (show 0 ≤ i + 1 by omega) (n - (i + 1)).toNat
  rw [show i + 1 + (((n - (i + 1)).toNat : Nat) : Int) = n by omega, fil_succ p i0, hp] at e
  simp only [if_true] at e
  have hl := fil_length_le n p
  have hlen : (fil i p).length < (fil n p).length := by rw [e]; simp only [List.length_append, List.length_cons]; omega
  have he : el (fil n p) ((fil i p).length : Int) = i := by
    rw [el_get hlen]
    simp only [e, List.append_assoc]
    rw [List.getElem_append_right (Nat.le_refl _)]
    simp
  have := indexL_el (l := fil n p) (by unfold Small; omega) (fil_nodup n p) (i := ((fil i p).length : Int)) (by omega) (by omega)
  rwa [he] at this

/-! ### full parts -/
noncomputable def fullL (c : XCategory) (o : List Int) : List Int := fil (c.From.length : Int) fun f => decide (el c.From f ∈ o) && decide (el c.To f ∈ o)
theorem fullL_mem {c : XCategory} {o : List Int} {f : Int} : f ∈ fullL c o ↔ 0 ≤ f ∧ f < (c.From.length : Int) ∧ el c.From f ∈ o ∧ el c.To f ∈ o := by
  unfold fullL
  rw [fil_mem, Bool.and_eq_true, decide_eq_true_iff, decide_eq_true_iff]
/-- A choice of objects: those that pass. -/
structure Pick (c : XCategory) (o : List Int) : Prop where
  s : Shp c
  e : o = fil c.Objects fun x => decide (x ∈ o)
theorem Pick.nodup {c : XCategory} {o : List Int} (h : Pick c o) : o.Nodup := by rw [h.e]; exact fil_nodup _ _
theorem Pick.len {c : XCategory} {o : List Int} (h : Pick c o) : (o.length : Int) ≤ c.Objects := by
  have h1 := fil_length_le c.Objects fun x => decide (x ∈ o)
  have n0 := h.s.n0
  have := congrArg List.length h.e
  omega
theorem Pick.id {c : XCategory} {o : List Int} (h : Pick c o) {x : Int} (x0 : 0 ≤ x) (x1 : x < c.Objects) : el c.Identity x ∈ fullL c o ↔ x ∈ o := by
  have i := h.s.id_in x x0 x1
  rw [fullL_mem, h.s.id_from x x0 x1, h.s.id_to x x0 x1]
  exact ⟨fun y => y.2.2.1, fun y => ⟨i.1, i.2, y, y⟩⟩
theorem el_map {α β : Type} [Inhabited α] [Inhabited β] {l : List α} {F : α → β} {i : Int} (i0 : 0 ≤ i) (i1 : i < (l.length : Int)) : el (l.map F) i = F (el l i) := by
  have e1 : idx (l.map F) i = some (el (l.map F) i) := idx_el i0 (by rw [List.length_map]; exact i1)
  have e2 : idx l i = some (el l i) := idx_el i0 i1
  have h1 := (idx_some e1).2.2
  have h2 := (idx_some e2).2.2
  rw [List.getElem?_map, h2] at h1
  exact (Option.some.inj h1).symm

end Go.Gx

/- Plain laws: labels and their classes; elements that are joined. -/
namespace Go.Gx
open Classical
set_option maxHeartbeats 1000000

/-! ### the least equivalence -/
inductive Eqv (P : Int → Int → Prop) : Int → Int → Prop
  | of {x y : Int} : P x y → Eqv P x y
  | refl (x : Int) : Eqv P x x
  | symm {x y : Int} : Eqv P x y → Eqv P y x
  | trans {x y z : Int} : Eqv P x y → Eqv P y z → Eqv P x z

theorem Eqv.mono {P Q : Int → Int → Prop} (h : ∀ x y, P x y → Eqv Q x y) {x y : Int} (e : Eqv P x y) : Eqv Q x y := by
  induction e with
  | of p => exact h _ _ p
  | refl x => exact .refl x
  | symm _ ih => exact .symm ih
  | trans _ _ ih1 ih2 => exact .trans ih1 ih2
theorem Eqv.congr {P Q : Int → Int → Prop} (h : ∀ x y, P x y → Eqv Q x y) (h' : ∀ x y, Q x y → Eqv P x y) {x y : Int} : Eqv P x y ↔ Eqv Q x y := ⟨Eqv.mono h, Eqv.mono h'⟩
/-- An equivalence that holds where P does. -/
theorem Eqv.into {P : Int → Int → Prop} {f : Int → Int} (h : ∀ x y, P x y → f x = f y) {x y : Int} (e : Eqv P x y) : f x = f y := by
  induction e with
  | of p => exact h _ _ p
  | refl x => rfl
  | symm _ ih => exact ih.symm
  | trans _ _ ih1 ih2 => exact ih1.trans ih2
theorem Eqv.add {P : Int → Int → Prop} {p q i j : Int} : Eqv (fun x y => P x y ∨ (x = p ∧ y = q)) i j ↔ Eqv P i j ∨ (Eqv P i p ∧ Eqv P q j) ∨ (Eqv P i q ∧ Eqv P p j) := by
  constructor
  · intro e
    induction e with
    | of h =>
      rcases h with h | ⟨rfl, rfl⟩
      · exact .inl (.of h)
      · exact .inr (.inl ⟨.refl _, .refl _⟩)
    | refl x => exact .inl (.refl x)
    | symm _ ih =>
      rcases ih with h | ⟨h, k⟩ | ⟨h, k⟩
      · exact .inl h.symm
      · exact .inr (.inr ⟨k.symm, h.symm⟩)
      · exact .inr (.inl ⟨k.symm, h.symm⟩)
    | trans _ _ ih1 ih2 =>
      rcases ih1 with h | ⟨h, k⟩ | ⟨h, k⟩
      · rcases ih2 with h' | ⟨h', k'⟩ | ⟨h', k'⟩
        · exact .inl (h.trans h')
        · exact .inr (.inl ⟨h.trans h', k'⟩)
        · exact .inr (.inr ⟨h.trans h', k'⟩)
      · rcases ih2 with h' | ⟨h', k'⟩ | ⟨h', k'⟩
        · exact .inr (.inl ⟨h, k.trans h'⟩)
        · exact .inr (.inl ⟨h, k'⟩)
        · exact .inl (h.trans k')
      · rcases ih2 with h' | ⟨h', k'⟩ | ⟨h', k'⟩
        · exact .inr (.inr ⟨h, k.trans h'⟩)
        · exact .inl (h.trans k')
        · exact .inr (.inr ⟨h, k'⟩)
  · have up : ∀ {a b}, Eqv P a b → Eqv (fun x y => P x y ∨ (x = p ∧ y = q)) a b := fun h => Eqv.mono (fun x y z => .of (.inl z)) h
    have pq : Eqv (fun x y => P x y ∨ (x = p ∧ y = q)) p q := .of (.inr ⟨rfl, rfl⟩)
    rintro (h | ⟨h, k⟩ | ⟨h, k⟩)
    · exact up h
    · exact (up h).trans (pq.trans (up k))
    · exact (up h).trans (pq.symm.trans (up k))

/-- f tells R apart on 0 .. n - 1. -/
def Ker (n : Int) (f : Int → Int) (R : Int → Int → Prop) : Prop := ∀ i j, 0 ≤ i → i < n → 0 ≤ j → j < n → (f i = f j ↔ R i j)

theorem Ker.congr {n : Int} {f : Int → Int} {R S : Int → Int → Prop} (h : Ker n f R) (e : ∀ i j, R i j ↔ S i j) : Ker n f S := fun i j i0 i1 j0 j1 => (h i j i0 i1 j0 j1).trans (e i j)
theorem Ker.none {n : Int} {f : Int → Int} (h : ∀ i j, 0 ≤ i → i < n → 0 ≤ j → j < n → f i = f j → i = j) : Ker n f (Eqv fun _ _ => False) := by
  intro i j i0 i1 j0 j1
  constructor
  · intro e; rw [h i j i0 i1 j0 j1 e]; exact .refl _
  · intro e; exact congrArg f (Eqv.into (f := fun x => x) (fun _ _ h => h.elim) e)
/-- Two labels made one. -/
theorem Ker.merge {n : Int} {f : Int → Int} {P : Int → Int → Prop} (h : Ker n f (Eqv P)) {p q : Int} (p0 : 0 ≤ p) (p1 : p < n) (q0 : 0 ≤ q) (q1 : q < n) {a b : Int} (e : (a = f p ∧ b = f q) ∨ (a = f q ∧ b = f p)) :
    Ker n (fun i => if f i = b then a else f i) (Eqv fun x y => P x y ∨ (x = p ∧ y = q)) := by
  intro i j i0 i1 j0 j1
  rw [Eqv.add, ← h i j i0 i1 j0 j1, ← h i p i0 i1 p0 p1, ← h q j q0 q1 j0 j1, ← h i q i0 i1 q0 q1, ← h p j p0 p1 j0 j1]
  rcases e with ⟨rfl, rfl⟩ | ⟨rfl, rfl⟩ <;> dsimp only <;> split <;> split <;> grind

/-! ### labels numbered in the order in which they come -/
/-- Is i the first of its label. -/
noncomputable def ldr (l : List Int) (i : Int) : Bool := indexL l (el l i) == i
noncomputable def cnt (l : List Int) (i : Int) : Int := ((fil i (ldr l)).length : Int)
noncomputable def nrm (l : List Int) : List Int := tab (l.length : Int) fun i => cnt l (indexL l (el l i))

theorem least {p : Int → Prop} : ∀ (k : Nat), p (k : Int) → ∃ i : Int, 0 ≤ i ∧ i ≤ (k : Int) ∧ p i ∧ ∀ j, 0 ≤ j → j < i → ¬ p j := by
  intro k
  induction k using Nat.strongRecOn with
  | ind k ih =>
    intro hk
    by_cases h : ∃ j : Nat, j < k ∧ p (j : Int)
    · obtain ⟨j, hj, pj⟩ := h
      obtain ⟨i, i0, i1, pi, hi⟩ := ih j hj pj
      exact ⟨i, i0, by omega, pi, hi⟩
    · refine ⟨(k : Int), by omega, by omega, hk, fun j j0 j1 pj => h ⟨j.toNat, by omega, ?_⟩⟩
      rwa [show ((j.toNat : Nat) : Int) = j by omega]

section
variable {l : List Int}
theorem first_spec (sl : Small l) {i : Int} (i0 : 0 ≤ i) (i1 : i < (l.length : Int)) :
    (0 ≤ indexL l (el l i) ∧ indexL l (el l i) ≤ i) ∧ el l (indexL l (el l i)) = el l i ∧ ∀ j, 0 ≤ j → j < indexL l (el l i) → el l j ≠ el l i := by
  obtain ⟨k, k0, k1, hk, hn⟩ := least (p := fun k => el l k = el l i) i.toNat (by rw [show ((i.toNat : Nat) : Int) = i by omega])
  have e : indexL l (el l i) = k := by
    rw [← hk]
    exact indexL_at sl k0 (by omega) fun j j0 j1 x => hn j j0 j1 (x.trans hk)
  rw [e]
  exact ⟨⟨k0, by omega⟩, hk, hn⟩
theorem ldr_iff (sl : Small l) {i : Int} (i0 : 0 ≤ i) (i1 : i < (l.length : Int)) : ldr l i = true ↔ ∀ j, 0 ≤ j → j < i → el l j ≠ el l i := by
  have f := first_spec sl i0 i1
  unfold ldr
  rw [beq_iff_eq]
  constructor
  · intro e j j0 j1
    exact f.2.2 j j0 (by omega)
  · intro h
    exact indexL_at sl i0 i1 h
theorem ldr_first (sl : Small l) {i : Int} (i0 : 0 ≤ i) (i1 : i < (l.length : Int)) : ldr l (indexL l (el l i)) = true := by
  have f := first_spec sl i0 i1
  unfold ldr
  rw [f.2.1, beq_iff_eq]
theorem ldr_inj (_ : Small l) {i j : Int} (_ : 0 ≤ i) (_ : i < (l.length : Int)) (_ : 0 ≤ j) (_ : j < (l.length : Int)) (hi : ldr l i = true) (hj : ldr l j = true) (e : el l i = el l j) : i = j := by
  unfold ldr at hi hj
  rw [beq_iff_eq] at hi hj
  rw [← hi, ← hj, e]

theorem cnt_succ {i : Int} (i0 : 0 ≤ i) : cnt l (i + 1) = cnt l i + if ldr l i = true then 1 else 0 := by
  unfold cnt
  rw [fil_succ _ i0]
  split <;> simp
theorem cnt_le {i : Int} (i0 : 0 ≤ i) : 0 ≤ cnt l i ∧ cnt l i ≤ i := by
  have := fil_length_le i (ldr l)
  unfold cnt; omega
theorem cnt_mono {i : Int} (i0 : 0 ≤ i) : ∀ k : Nat, cnt l i ≤ cnt l (i + (k : Int))
  | 0 => by simp
  | k + 1 => by
    have := cnt_mono i0 k
    rw [show i + ((k + 1 : Nat) : Int) = (i + (k : Int)) + 1 by omega, cnt_succ (by omega)]
    split <;> omega
theorem cnt_lt {i j : Int} (i0 : 0 ≤ i) (hij : i < j) (h : ldr l i = true) : cnt l i < cnt l j := by
  have := cnt_mono (l := l) (i := i + 1) (by omega) (j - (i + 1)).toNat
  rw [show i + 1 + (((j - (i + 1)).toNat : Nat) : Int) = j by omega, cnt_succ i0, if_pos h] at this
  omega
theorem cnt_inj {i j : Int} (i0 : 0 ≤ i) (j0 : 0 ≤ j) (hi : ldr l i = true) (hj : ldr l j = true) (e : cnt l i = cnt l j) : i = j := by
  rcases Int.lt_trichotomy i j with h | h | h
  · have := cnt_lt i0 h hi; omega
  · exact h
  · have := cnt_lt j0 h hj; omega

theorem nrm_len : (nrm l).length = l.length := by unfold nrm; rw [tab_length]; omega
theorem nrm_small (sl : Small l) : Small (nrm l) := by unfold Small; rw [nrm_len]; exact sl
theorem nrm_el {i : Int} (i0 : 0 ≤ i) (i1 : i < (l.length : Int)) : el (nrm l) i = cnt l (indexL l (el l i)) := by unfold nrm; rw [el_tab i0 i1]
theorem nrm_ker (sl : Small l) {i j : Int} (i0 : 0 ≤ i) (i1 : i < (l.length : Int)) (j0 : 0 ≤ j) (j1 : j < (l.length : Int)) : el (nrm l) i = el (nrm l) j ↔ el l i = el l j := by
  rw [nrm_el i0 i1, nrm_el j0 j1]
  have fi := first_spec sl i0 i1
  have fj := first_spec sl j0 j1
  constructor
  · intro e
    have := cnt_inj fi.1.1 fj.1.1 (ldr_first sl i0 i1) (ldr_first sl j0 j1) e
    rw [← fi.2.1, this, fj.2.1]
  · intro e; rw [e]
/-- Labels that tell the same apart are numbered in the same way. -/
theorem nrm_congr {m : List Int} (sl : Small l) (hl : l.length = m.length) (h : ∀ i j, 0 ≤ i → i < (l.length : Int) → 0 ≤ j → j < (l.length : Int) → (el l i = el l j ↔ el m i = el m j)) : nrm l = nrm m := by
  have sm : Small m := by unfold Small at *; omega
  have hf : ∀ i, 0 ≤ i → i < (l.length : Int) → indexL l (el l i) = indexL m (el m i) := by
    intro i i0 i1
    have a := first_spec sl i0 i1
    have b := first_spec sm i0 (by omega)
    rcases Int.lt_trichotomy (indexL l (el l i)) (indexL m (el m i)) with q | q | q
    · exact absurd ((h _ _ a.1.1 (by omega) i0 i1).1 a.2.1) (b.2.2 _ a.1.1 q)
    · exact q
    · exact absurd ((h _ _ b.1.1 (by omega) i0 i1).2 b.2.1) (a.2.2 _ b.1.1 q)
  have hd : ∀ i, 0 ≤ i → i < (l.length : Int) → ldr l i = ldr m i := by
    intro i i0 i1
    unfold ldr
    rw [hf i i0 i1]
  unfold nrm
  rw [← hl]
  apply tab_congr
  intro i i0 i1
  rw [hf i i0 i1]
  have b := first_spec sm i0 (by omega)
  unfold cnt
  rw [fil_congr fun j j0 j1 => hd j j0 (by omega)]
theorem nrm_idem (sl : Small l) : nrm (nrm l) = nrm l := nrm_congr (nrm_small sl) nrm_len fun i j i0 i1 j0 j1 => by
  rw [nrm_len] at i1 j1
  exact nrm_ker sl i0 i1 j0 j1

theorem fil_el {n i : Int} (p : Int → Bool) (i0 : 0 ≤ i) (i1 : i < n) (hp : p i = true) (hn : n ≤ 1048576) : el (fil n p) ((fil i p).length : Int) = i := by
  rw [← fil_place p i0 i1 hp hn]
  have := fil_length_le n p
  exact (indexL_in (by unfold Small; omega) (fil_nodup n p) (fil_mem.2 ⟨i0, i1, hp⟩)).2
/-- What has been seen before i: the labels of the first ones. -/
noncomputable def seenL (l : List Int) (i : Int) : List Int := (fil i (ldr l)).map (el l)
theorem seenL_len (i : Int) : ((seenL l i).length : Int) = cnt l i := by unfold seenL cnt; rw [List.length_map]
theorem seen_at (sl : Small l) {i k : Int} (i1 : i ≤ (l.length : Int)) (k0 : 0 ≤ k) (k1 : k < i) (hk : ldr l k = true) : indexL (seenL l i) (el l k) = cnt l k := by
  have hc := cnt_lt (j := i) k0 k1 hk
  have c0 := cnt_le (l := l) k0
  have ci := cnt_le (l := l) (i := i) (by omega)
  have hl := seenL_len (l := l) i
  unfold Small at sl
  have lf : ((fil i (ldr l)).length : Int) = cnt l i := rfl
  have e1 : el (seenL l i) (cnt l k) = el l k := by
    unfold seenL
    rw [el_map c0.1 (by omega)]
    unfold cnt
    rw [fil_el _ k0 k1 hk (by omega)]
  rw [← e1]
  refine indexL_at (by unfold Small; omega) c0.1 (by omega) fun j j0 j1 => ?_
  rw [e1]
  unfold seenL
  rw [el_map j0 (by omega)]
  have hm : el (fil i (ldr l)) j ∈ fil i (ldr l) := el_mem j0 (by omega)
  have hm' := fil_mem.1 hm
  intro e
  have := ldr_inj (by unfold Small; omega) hm'.1 (by omega) k0 (by omega) hm'.2.2 hk e
  have hi := indexL_el (l := fil i (ldr l)) (by unfold Small; omega) (fil_nodup _ _) j0 (by omega)
  rw [this, fil_place _ k0 k1 hk (by omega)] at hi
  have : cnt l k = j := hi
  omega
theorem seen_no (sl : Small l) {i : Int} (i0 : 0 ≤ i) (i1 : i < (l.length : Int)) (hi : ldr l i = true) : indexL (seenL l i) (el l i) = -1 := by
  have hl := seenL_len (l := l) i
  have ci := cnt_le (l := l) i0
  unfold Small at sl
  refine indexL_no (by unfold Small; omega) ?_
  unfold seenL
  rw [List.mem_map]
  rintro ⟨k, hk, e⟩
  have hk := fil_mem.1 hk
  exact (ldr_iff (by unfold Small; omega) i0 i1).1 hi k hk.1 hk.2.1 e
theorem seen_next {i : Int} (i0 : 0 ≤ i) : seenL l (i + 1) = seenL l i ++ if ldr l i = true then [el l i] else [] := by
  unfold seenL
  rw [fil_succ _ i0, List.map_append]
  split <;> simp
end

/-! ### a forest whose roots are the least of their classes -/
structure UF (j : List Int) (ρ : Int → Int) : Prop where
  up : ∀ x, 0 ≤ x → x < (j.length : Int) → 0 ≤ el j x ∧ el j x ≤ x
  st : ∀ x, 0 ≤ x → x < (j.length : Int) → ρ (el j x) = ρ x
  fx : ∀ x, 0 ≤ x → x < (j.length : Int) → el j x = x → ρ x = x
  lo : ∀ x, 0 ≤ x → x < (j.length : Int) → 0 ≤ ρ x ∧ ρ x ≤ x
  ix : ∀ x, 0 ≤ x → x < (j.length : Int) → ρ (ρ x) = ρ x

theorem el_set {α : Type} [Inhabited α] {l : List α} {i k : Int} {v : α} (i0 : 0 ≤ i) (i1 : i < (l.length : Int)) (k0 : 0 ≤ k) : el (l.set i.toNat v) k = if k = i then v else el l k := by
  unfold el
  rw [List.getD_eq_getElem?_getD, List.getD_eq_getElem?_getD, List.getElem?_set]
  by_cases h : k = i
  · subst h; rw [if_pos rfl, if_pos (by omega), if_pos rfl]; rfl
  · rw [if_neg (by omega), if_neg h]

section
variable {j : List Int} {ρ : Int → Int}
theorem UF.start (n : Int) : UF (tab n fun x => x) (fun x => x) := by
  refine ⟨?_, ?_, ?_, ?_, ?_⟩ <;> intro x x0 x1 <;> (try rw [tab_length] at x1) <;> (try rw [el_tab x0 (by omega)]) <;> try omega
theorem UF.halve (h : UF j ρ) {x : Int} (x0 : 0 ≤ x) (x1 : x < (j.length : Int)) (hx : el j x ≠ x) : UF (j.set x.toNat (el j (el j x))) ρ := by
  have a := h.up x x0 x1
  have b := h.up (el j x) a.1 (by omega)
  have L : ((j.set x.toNat (el j (el j x))).length : Int) = (j.length : Int) := by rw [List.length_set]
  refine ⟨?_, ?_, ?_, ?_, ?_⟩ <;> intro y y0 y1 <;> rw [L] at y1
  · rw [el_set x0 x1 y0]; split
    · subst_vars; omega
    · exact h.up y y0 y1
  · rw [el_set x0 x1 y0]; split
    · subst_vars; rw [h.st _ a.1 (by omega), h.st _ x0 x1]
    · exact h.st y y0 y1
  · rw [el_set x0 x1 y0]; split
    · subst_vars; intro e; omega
    · exact h.fx y y0 y1
  · exact h.lo y y0 y1
  · exact h.ix y y0 y1
theorem UF.join (h : UF j ρ) {M m : Int} (M0 : 0 ≤ M) (M1 : M < (j.length : Int)) (m0 : 0 ≤ m) (hm : m ≤ M) (rM : ρ M = M) (rm : ρ m = m) :
    UF (j.set M.toNat m) (fun x => if ρ x = M then m else ρ x) := by
  have L : ((j.set M.toNat m).length : Int) = (j.length : Int) := by rw [List.length_set]
  refine ⟨?_, ?_, ?_, ?_, ?_⟩ <;> intro y y0 y1 <;> rw [L] at y1
  · rw [el_set M0 M1 y0]; split
    · omega
    · exact h.up y y0 y1
  · rw [el_set M0 M1 y0]; split
    · subst_vars; rw [rm, rM, if_pos rfl]; split <;> rfl
    · rw [h.st y y0 y1]
  · rw [el_set M0 M1 y0]; split
    · subst_vars; intro e; rw [rM, if_pos rfl]; exact e
    · rename_i hy
      intro e
      rw [h.fx y y0 y1 e, if_neg hy]
  · have := h.lo y y0 y1
    split <;> omega
  · have := h.lo y y0 y1
    by_cases e : ρ y = M
    · rw [if_pos e, rm]; split <;> rfl
    · rw [if_neg e, h.ix y y0 y1, if_neg e]
end
end Go.Gx

/- Plain laws: labels numbered, elements joined: what the program does. -/
namespace Go.Gx
open Classical
set_option maxHeartbeats 1000000

theorem l01Classes_eq {l : List Int} (sl : Small l) : M.spec_l01Classes l = some (nrm l) := by
  apply Ret.eq
  unfold M.spec_l01Classes
  refine Ret.loop (l.length : Int) (fun i s => s = (tab i (fun i => cnt l (indexL l (el l i))), seenL l i, i)) (by omega) (by unfold Small at sl; omega) rfl ?_ ?_
  · rintro i s next i0 i1 rfl hn
    unfold Small at sl
    have hs := seenL_len (l := l) i
    have hc := cnt_le (l := l) i0
    have ht : (((tab i fun i => cnt l (indexL l (el l i))).length : Nat) : Int) = i := by rw [tab_length]; omega
    dsimp only
    rw [if_pos (decide_eq_true i1)]
    refine Ret.idx i0 i1 (Ret.call (l01Index_eq (by unfold Small; omega) _) ?_)
    have f := first_spec (l := l) (by unfold Small; omega) i0 i1
    by_cases hl : ldr l i = true
    · rw [seen_no (by unfold Small; omega) i0 i1 hl, if_pos (by decide)]
      have hf : indexL l (el l i) = i := by unfold ldr at hl; exact beq_iff_eq.1 hl
      refine Ret.chk (by unfold lim; simp only [List.length_cons, List.length_nil]; omega) (Ret.chk (by unfold lim; simp only [List.length_cons, List.length_nil]; omega) (hn _ ?_))
      rw [tab_succ _ i0, seen_next i0, if_pos hl, wrap_in (by omega) (by omega), hs, hf]
    · have hd := ldr_first (l := l) (by unfold Small; omega) i0 i1
      have hne : indexL l (el l i) ≠ i := fun e => hl (by unfold ldr; exact beq_iff_eq.2 e)
      have hs2 := seen_at (l := l) (i := i) (k := indexL l (el l i)) (by unfold Small; omega) (by omega) f.1.1 (by omega) hd
      rw [f.2.1] at hs2
      rw [hs2]
      have hc2 := cnt_le (l := l) f.1.1
      rw [if_neg (by simp; omega)]
      refine Ret.chk (by unfold lim; simp only [List.length_cons, List.length_nil]; omega) (hn _ ?_)
      rw [tab_succ _ i0, seen_next i0, if_neg hl, List.append_nil, wrap_in (by omega) (by omega)]
  · rintro s next rfl
    dsimp only
    rw [if_neg (by simp)]
    exact Ret.some rfl

/-! ### maps of numbers -/
theorem mget_mput {k k' v : Int} : ∀ m : List (Int × Int), mget k' (mput k v m) = if k' = k then some v else mget k' m
  | [] => by simp [mput, mget]
  | e :: m => by
    have ih := mget_mput (k := k) (k' := k') (v := v) m
    unfold mput
    by_cases h : k = e.1
    · rw [if_pos h]
      unfold mget
      by_cases h' : k' = k
      · simp [h']
      · rw [if_neg h', if_neg h', if_neg (by rw [← h]; exact h')]
    · rw [if_neg h]
      unfold mget
      by_cases h' : k' = e.1
      · rw [if_pos h', if_pos h', if_neg (by rw [h']; exact fun x => h x.symm)]
      · rw [if_neg h', if_neg h', ih]
theorem mput_new {k v : Int} : ∀ m : List (Int × Int), mget k m = none → (mput k v m).length = m.length + 1
  | [], _ => rfl
  | e :: m, h => by
    unfold mget at h
    unfold mput
    by_cases hk : k = e.1
    · rw [if_pos hk] at h; cases h
    · rw [if_neg hk] at h
      rw [if_neg hk, List.length_cons, mput_new m h, List.length_cons]

/-- What the numbering remembers before i. -/
structure NumM (l : List Int) (i : Int) (m : List (Int × Int)) : Prop where
  some : ∀ k, 0 ≤ k → k < i → ldr l k = true → mget (el l k) m = some (cnt l k)
  none : ∀ v, (∀ k, 0 ≤ k → k < i → el l k ≠ v) → mget v m = none
  len : (m.length : Int) = cnt l i

theorem normal_eq {l : List Int} (sl : Small l) : M.impl_normal l = some (nrm l) := by
  apply Ret.eq
  unfold M.impl_normal
  unfold Small at sl
  refine Ret.chk ⟨by omega, by unfold lim; omega⟩ ?_
  refine Ret.loop (l.length : Int) (fun i s => NumM l i s.1 ∧ s.2.1 = tab (l.length : Int) (fun j => if j < i then cnt l (indexL l (el l j)) else 0) ∧ s.2.2 = i) (by omega) (by omega) ⟨⟨fun k k0 k1 => by omega, fun v _ => rfl, rfl⟩, ?_, rfl⟩ ?_ ?_
  · dsimp only
    rw [rep_tab]
    apply tab_congr
    intro j j0 j1
    rw [if_neg (by omega)]
  · rintro i ⟨m, o, j⟩ next i0 i1 ⟨hm, ho, hj⟩ hn
    dsimp only at ho hj hm
    subst hj ho
    have f := first_spec (l := l) (by unfold Small; omega) i0 i1
    have hL : (((tab (l.length : Int) fun k => if k < j then cnt l (indexL l (el l k)) else 0).length : Nat) : Int) = (l.length : Int) := by rw [tab_length]; omega
    dsimp only
    rw [if_pos (decide_eq_true i1)]
    refine Ret.idx i0 i1 ?_
    have put : ∀ v : Int, v = cnt l (indexL l (el l j)) → (tab (l.length : Int) fun k => if k < j then cnt l (indexL l (el l k)) else 0).set j.toNat v = tab (l.length : Int) fun k => if k < j + 1 then cnt l (indexL l (el l k)) else 0 := by
      rintro v rfl
      rw [set_tab i0]
      apply tab_congr
      intro k k0 k1
      by_cases h : k = j
      · subst h; rw [if_pos rfl, if_pos (by omega)]
      · rw [if_neg h]
        by_cases h2 : k < j
        · rw [if_pos h2, if_pos (by omega)]
        · rw [if_neg h2, if_neg (by omega)]
    by_cases hl : ldr l j = true
    · have hno : mget (el l j) m = none := hm.none _ fun k k0 k1 => (ldr_iff (by unfold Small; omega) i0 i1).1 hl k k0 k1
      have hf : indexL l (el l j) = j := by unfold ldr at hl; exact beq_iff_eq.1 hl
      rw [hno, if_neg (by simp)]
      refine Ret.idx i0 (by omega) (hn _ ⟨⟨?_, ?_, ?_⟩, ?_, wrap_in (by omega) (by omega)⟩)
      · intro k k0 k1 hk
        dsimp only
        rw [mget_mput]
        by_cases h : k = j
        · subst h; rw [if_pos rfl, hm.len]
        · rw [if_neg, hm.some k k0 (by omega) hk]
          exact (ldr_iff (by unfold Small; omega) i0 i1).1 hl k k0 (by omega)
      · intro v hv
        dsimp only
        rw [mget_mput, if_neg (fun e => hv j i0 (by omega) e.symm)]
        exact hm.none v fun k k0 k1 => hv k k0 (by omega)
      · dsimp only
        rw [mput_new m hno, cnt_succ i0, if_pos hl, ← hm.len]; omega
      · dsimp only
        exact put _ (by rw [hm.len, hf])
    · have hd := ldr_first (l := l) (by unfold Small; omega) i0 i1
      have hne : indexL l (el l j) ≠ j := fun e => hl (by unfold ldr; exact beq_iff_eq.2 e)
      have hs := hm.some _ f.1.1 (by omega) hd
      rw [f.2.1] at hs
      rw [hs, Option.isSome_some, if_pos rfl]
      refine Ret.idx i0 (by omega) (hn _ ⟨⟨?_, ?_, ?_⟩, ?_, wrap_in (by omega) (by omega)⟩)
      · intro k k0 k1 hk
        by_cases h : k = j
        · subst h; exact absurd hk hl
        · exact hm.some k k0 (by omega) hk
      · intro v hv
        exact hm.none v fun k k0 k1 => hv k k0 (by omega)
      · dsimp only
        rw [cnt_succ i0, if_neg hl, hm.len]; omega
      · dsimp only
        exact put _ rfl
  · rintro ⟨m, o, j⟩ next ⟨hm, ho, hj⟩
    dsimp only at ho hj hm
    subst hj ho
    dsimp only
    rw [if_neg (by simp)]
    refine Ret.some ?_
    unfold nrm
    apply tab_congr
    intro k k0 k1
    rw [if_pos k1]

/-! ### joined labels -/
/-- Pairs in range. -/
def PairsIn (n : Int) (p : List (List Int)) : Prop := ∀ k, 0 ≤ k → k < (p.length : Int) → 2 ≤ ((el p k).length : Int) ∧ (0 ≤ el (el p k) 0 ∧ el (el p k) 0 < n) ∧ (0 ≤ el (el p k) 1 ∧ el (el p k) 1 < n)
/-- x and y are one of the first i pairs. -/
def PairAt (p : List (List Int)) (i : Int) (x y : Int) : Prop := ∃ k, 0 ≤ k ∧ k < i ∧ x = el (el p k) 0 ∧ y = el (el p k) 1
theorem pairAt_zero (p : List (List Int)) (x y : Int) : PairAt p 0 x y ↔ False := by
  constructor
  · rintro ⟨k, k0, k1, _⟩; omega
  · exact False.elim
theorem pairAt_succ {p : List (List Int)} {i : Int} (i0 : 0 ≤ i) (x y : Int) : PairAt p (i + 1) x y ↔ PairAt p i x y ∨ (x = el (el p i) 0 ∧ y = el (el p i) 1) := by
  constructor
  · rintro ⟨k, k0, k1, h⟩
    by_cases e : k = i
    · subst e; exact .inr h
    · exact .inl ⟨k, k0, by omega, h⟩
  · rintro (⟨k, k0, k1, h⟩ | h)
    · exact ⟨k, k0, by omega, h⟩
    · exact ⟨i, i0, by omega, h⟩

/-- The labels behind all pairs. -/
theorem l01Join_r {n : Int} {p : List (List Int)} (n0 : 0 ≤ n) (n1 : n ≤ 1048576) (sp : (p.length : Int) ≤ 1073741824) (hp : PairsIn n p) :
    Ret (M.spec_l01Join n p) fun r => ∃ l, r = nrm l ∧ (l.length : Int) = n ∧ Ker n (el l) (Eqv (PairAt p (p.length : Int))) := by
  unfold M.spec_l01Join
  refine Ret.acc n (fun i s => s = tab i fun x => x) n0 (by omega) rfl ?_ ?_
  · rintro i s next i0 i1 rfl hn
    have ht : (((tab i fun x => x).length : Nat) : Int) = i := by rw [tab_length]; omega
    dsimp only
    rw [if_pos (decide_eq_true i1)]
    exact Ret.chk (by unfold lim; simp only [List.length_cons, List.length_nil]; omega) (hn _ (tab_succ (fun x => x) i0).symm)
  rintro s next rfl
  dsimp only
  rw [if_neg (by simp)]
  refine Ret.acc (p.length : Int) (fun i s => (s.length : Int) = n ∧ Ker n (el s) (Eqv (PairAt p i))) (by omega) (by omega) ⟨by rw [tab_length]; omega, ?_⟩ ?_ ?_
  · refine (Ker.none fun i j i0 i1 j0 j1 e => ?_).congr fun i j => Eqv.congr (fun x y h => h.elim) (fun x y h => ((pairAt_zero p x y).1 h).elim)
    rwa [el_tab i0 i1, el_tab j0 j1] at e
  · rintro i s next i0 i1 ⟨hl, hk⟩ hn
    obtain ⟨h2, ⟨a0, a1⟩, ⟨b0, b1⟩⟩ := hp i i0 i1
    dsimp only
    rw [if_pos (decide_eq_true i1)]
    refine Ret.idx i0 i1 (Ret.idx (by omega) (by omega) (Ret.idx a0 (by omega) (Ret.idx (by omega) (by omega) (Ret.idx b0 (by omega) ?_))))
    have w : IntKind.i64.wrap (i + 1) = i + 1 := wrap_in (by omega) (by omega)
    by_cases hne : el s (el (el p i) 0) = el s (el (el p i) 1)
    · -- the labels are one already
      have hk' : Ker n (el s) (Eqv (PairAt p (i + 1))) := by
        refine hk.congr fun x y => Eqv.congr (fun x y h => .of ((pairAt_succ i0 x y).2 (.inl h))) (fun x y h => ?_)
        rcases (pairAt_succ i0 x y).1 h with h | ⟨rfl, rfl⟩
        · exact .of h
        · exact (hk _ _ a0 a1 b0 b1).1 hne
      refine Ret.loop 0 (fun _ t => t = (s, 0)) (by omega) (by omega) rfl (fun _ _ _ _ h => by omega) ?_
      rintro t nx rfl
      dsimp only
      by_cases h0 : (0 : Int) < (s.length : Int)
      · rw [if_pos (decide_eq_true h0), if_neg (by simp [hne])]
        exact hn s ⟨hl, hk'⟩
      · rw [if_neg (by simp; omega)]
        exact hn s ⟨hl, hk'⟩
    · refine Ret.acc (s.length : Int) (fun j t => t = tab (s.length : Int) fun x => if x < j ∧ el s x = el s (el (el p i) 1) then el s (el (el p i) 0) else el s x) (by omega) (by omega) ?_ ?_ ?_
      · rw [← tab_el s]
        rw [tab_el s]
        conv => lhs; rw [← tab_el s]
        apply tab_congr
        intro x x0 x1
        rw [if_neg (by omega)]
      · rintro j t nx j0 j1 rfl hnx
        have hL : (((tab (s.length : Int) fun x => if x < j ∧ el s x = el s (el (el p i) 1) then el s (el (el p i) 0) else el s x).length : Nat) : Int) = (s.length : Int) := by rw [tab_length]; omega
        dsimp only
        rw [hL, if_pos (decide_eq_true j1), if_pos (by simpa using hne)]
        refine Ret.idx j0 (by omega) ?_
        have eT : el (tab (s.length : Int) fun x => if x < j ∧ el s x = el s (el (el p i) 1) then el s (el (el p i) 0) else el s x) j = el s j := by
          rw [el_tab j0 j1]
          exact if_neg (fun h => by omega)
        rw [eT]
        by_cases e : el s j = el s (el (el p i) 1)
        · rw [if_pos (by simpa using e)]
          refine hnx _ ?_
          rw [set_tab j0]
          apply tab_congr
          intro x x0 x1
          by_cases h : x = j
          · subst h; rw [if_pos rfl, if_pos ⟨by omega, e⟩]
          · rw [if_neg h]
            by_cases h2 : x < j ∧ el s x = el s (el (el p i) 1)
            · rw [if_pos h2, if_pos ⟨by omega, h2.2⟩]
            · rw [if_neg h2, if_neg (fun z => h2 ⟨by omega, z.2⟩)]
        · rw [if_neg (by simpa using e)]
          refine hnx _ ?_
          apply tab_congr
          intro x x0 x1
          by_cases h2 : x < j ∧ el s x = el s (el (el p i) 1)
          · rw [if_pos h2, if_pos ⟨by omega, h2.2⟩]
          · rw [if_neg h2, if_neg (fun z => h2 ⟨by
              rcases Int.lt_trichotomy x j with q | q | q
              · exact q
              · subst q; exact absurd z.2 e
              · omega, z.2⟩)]
      · rintro t nx rfl
        have hL : (((tab (s.length : Int) fun x => if x < (s.length : Int) ∧ el s x = el s (el (el p i) 1) then el s (el (el p i) 0) else el s x).length : Nat) : Int) = (s.length : Int) := by rw [tab_length]; omega
        dsimp only
        rw [hL, if_neg (by simp)]
        refine hn _ ⟨by omega, ?_⟩
        have hm := hk.merge a0 a1 b0 b1 (.inl ⟨rfl, rfl⟩)
        have hm2 := hm.congr (S := Eqv (PairAt p (i + 1))) fun x y => Eqv.congr (fun x y h => .of ((pairAt_succ i0 x y).2 h)) (fun x y h => .of ((pairAt_succ i0 x y).1 h))
        intro x y x0 x1 y0 y1
        rw [el_tab x0 (by omega), el_tab y0 (by omega), ← hm2 x y x0 x1 y0 y1]
        have q : ∀ z, z < n → (if z < (s.length : Int) ∧ el s z = el s (el (el p i) 1) then el s (el (el p i) 0) else el s z) = if el s z = el s (el (el p i) 1) then el s (el (el p i) 0) else el s z := by
          intro z z1
          by_cases h : el s z = el s (el (el p i) 1)
          · rw [if_pos ⟨by omega, h⟩, if_pos h]
          · rw [if_neg (fun w => h w.2), if_neg h]
        rw [q x x1, q y y1]
  · rintro s next ⟨hl, hk⟩
    dsimp only
    rw [if_neg (by simp)]
    refine Ret.call (l01Classes_eq (by unfold Small; omega)) (Ret.some ⟨s, rfl, hl, hk⟩)

/-! ### the forest -/
theorem joinerOf_eq {n : Int} (n0 : 0 ≤ n) (n1 : n ≤ 1048576) : M.impl_joinerOf n = some (tab n fun x => x) := by
  unfold M.impl_joinerOf
  rw [numbers_eq n0 n1]; rfl

theorem root_r {j : List Int} {ρ : Int → Int} (h : UF j ρ) (sj : Small j) {x : Int} (x0 : 0 ≤ x) (x1 : x < (j.length : Int)) :
    Ret (M.impl_joiner_root j x) fun r => r.1 = ρ x ∧ UF r.2 ρ ∧ r.2.length = j.length ∧ ρ (ρ x) = ρ x := by
  unfold M.impl_joiner_root
  unfold Small at sj
  refine Ret.loop x (fun i s => UF s.1 ρ ∧ s.1.length = j.length ∧ ρ s.2 = ρ x ∧ 0 ≤ s.2 ∧ s.2 ≤ x - i) x0 (by omega) ⟨h, rfl, rfl, x0, by omega⟩ ?_ ?_
  · rintro i ⟨s, z⟩ next i0 i1 ⟨hu, hl, hr, z0, z1⟩ hn
    dsimp only at hu hl hr z0 z1 ⊢
    have u := hu.up z z0 (by omega)
    refine Ret.idx z0 (by omega) ?_
    by_cases e : el s z = z
    · rw [if_neg (by simpa using e)]
      have := hu.fx z z0 (by omega) e
      exact Ret.some ⟨by rw [← hr, this], hu, hl, hu.ix x x0 (by omega)⟩
    · rw [if_pos (by simpa using e)]
      have u2 := hu.up (el s z) u.1 (by omega)
      have L : ((s.set z.toNat (el s (el s z))).length : Int) = (s.length : Int) := by rw [List.length_set]
      refine Ret.idx u.1 (by omega) (Ret.idx z0 (by omega) (hn _ ?_))
      rw [el_set z0 (by omega) z0, if_pos rfl]
      exact ⟨hu.halve z0 (by omega) e, by rw [List.length_set]; exact hl, by dsimp only; rw [hu.st _ u.1 (by omega), hu.st z z0 (by omega), hr], u2.1, by dsimp only; omega⟩
  · rintro ⟨s, z⟩ next ⟨hu, hl, hr, z0, z1⟩
    dsimp only at hu hl hr z0 z1 ⊢
    have u := hu.up z z0 (by omega)
    have e : el s z = z := by omega
    refine Ret.idx z0 (by omega) ?_
    rw [if_neg (by simpa using e)]
    have := hu.fx z z0 (by omega) e
    exact Ret.some ⟨by rw [← hr, this], hu, hl, hu.ix x x0 (by omega)⟩

theorem join_r {j : List Int} {ρ : Int → Int} {P : Int → Int → Prop} (h : UF j ρ) (sj : Small j) (hk : Ker (j.length : Int) ρ (Eqv P)) {x y : Int} (x0 : 0 ≤ x) (x1 : x < (j.length : Int)) (y0 : 0 ≤ y) (y1 : y < (j.length : Int)) :
    Ret (M.impl_joiner_join j x y) fun r => ∃ ρ', UF r.2 ρ' ∧ r.2.length = j.length ∧ Ker (j.length : Int) ρ' (Eqv fun a b => P a b ∨ (a = x ∧ b = y)) := by
  unfold M.impl_joiner_join
  refine Ret.bind (root_r h sj x0 x1) ?_
  rintro ⟨a, j1⟩ ⟨ea, h1, l1, ia⟩
  dsimp only at ea h1 l1 ⊢
  subst ea
  refine Ret.bind (root_r h1 (by unfold Small at *; omega) y0 (by omega)) ?_
  rintro ⟨b, j2⟩ ⟨eb, h2, l2, ib⟩
  dsimp only at eb h2 l2 ⊢
  subst eb
  have la := h.lo x x0 x1
  have lb := h.lo y y0 y1
  by_cases hab : ρ y > ρ x
  · rw [if_pos hab, if_neg (by omega)]
    refine Ret.idx (by omega) (by omega) (Ret.some ⟨_, h2.join (M := ρ y) (m := ρ x) (by omega) (by omega) (by omega) (by omega) ib ia, by rw [List.length_set]; omega, hk.merge x0 x1 y0 y1 (.inl ⟨rfl, rfl⟩)⟩)
  · rw [if_neg hab]
    by_cases hba : ρ y < ρ x
    · rw [if_pos hba]
      refine Ret.idx (by omega) (by omega) (Ret.some ⟨_, h2.join (M := ρ x) (m := ρ y) (by omega) (by omega) (by omega) (by omega) ia ib, by rw [List.length_set]; omega, hk.merge x0 x1 y0 y1 (.inr ⟨rfl, rfl⟩)⟩)
    · rw [if_neg hba]
      refine Ret.idx (by omega) (by omega) (Ret.some ⟨_, h2.join (M := ρ x) (m := ρ x) (by omega) (by omega) (by omega) (by omega) ia ia, by rw [List.length_set]; omega, hk.merge x0 x1 y0 y1 (.inr ⟨by omega, rfl⟩)⟩)

/-- How many classes there are. -/
theorem classes_r {l : List Int} (sl : Small l) : Ret (M.impl_partition_classes (nrm l)) fun r => r = cnt l (l.length : Int) := by
  unfold M.impl_partition_classes
  have hn := nrm_len (l := l)
  unfold Small at sl
  refine Ret.acc ((nrm l).length : Int) (fun i s => s = cnt l i) (by omega) (by omega) rfl ?_ ?_
  · rintro i s next i0 i1 rfl hn2
    have f := first_spec (l := l) (by unfold Small; omega) i0 (by omega)
    have c1 := cnt_le (l := l) f.1.1
    have ci := cnt_le (l := l) i0
    dsimp only
    rw [if_pos (decide_eq_true i1)]
    refine Ret.idx i0 i1 ?_
    rw [nrm_el i0 (by omega)]
    have w : IntKind.i64.wrap (cnt l (indexL l (el l i)) + 1) = cnt l (indexL l (el l i)) + 1 := wrap_in (by omega) (by omega)
    rw [w]
    refine hn2 _ ?_
    rw [cnt_succ i0]
    by_cases hl : ldr l i = true
    · have hf : indexL l (el l i) = i := by unfold ldr at hl; exact beq_iff_eq.1 hl
      rw [hf, if_pos hl, if_pos (by omega)]
    · have hne : indexL l (el l i) ≠ i := fun e => hl (by unfold ldr; exact beq_iff_eq.2 e)
      have := cnt_lt (l := l) (j := i) f.1.1 (by omega) (ldr_first (by unfold Small; omega) i0 (by omega))
      rw [if_neg hl, if_neg (by omega)]; omega
  · rintro s next rfl
    dsimp only
    rw [if_neg (by simp)]
    exact Ret.some (by rw [hn])
end Go.Gx

/- Plain laws: arrows out of an object. -/
namespace Go.Gx
open Classical
set_option maxHeartbeats 1000000

theorem outOf_eq {c : XCategory} (h : Small c.From) (x : Int) : M.impl_Category_outOf c x = some (fil (c.From.length : Int) fun s => el c.From s == x) := by
  apply Ret.eq
  unfold M.impl_Category_outOf
  refine Ret.acc (c.From.length : Int) (fun i a => a = fil i fun s => el c.From s == x) (by omega) (by omega) rfl ?_ ?_
  · rintro i a next hi0 hi1 rfl hn1
    have hle := fil_length_le i fun s => el c.From s == x
    dsimp only
    simp only [decide_eq_true_eq, beq_iff_eq]
    (repeat' (first | with_reducible refine Ret.pos ‹_› ?_ | with_reducible refine Ret.neg ‹_› ?_ | with_reducible refine Ret.neg (Int.lt_irrefl _) ?_ | with_reducible refine Ret.ite (fun _ => ?_) (fun _ => ?_) | with_reducible refine Ret.idx ?_ ?_ ?_ | with_reducible refine Ret.chk ?_ ?_ | with_reducible refine hn3 ?_ | with_reducible refine hn2 ?_ | with_reducible refine hn1 ?_ | with_reducible refine hn3 _ ?_ | with_reducible refine hn2 _ ?_ | with_reducible refine hn1 _ ?_ | with_reducible refine Ret.some ?_))
    · exact hi0
    · exact hi1
    · unfold lim; simp only [List.length_cons, List.length_nil]; omega
    · rw [fil_succ _ hi0]; simp [*]
    · rw [fil_succ _ hi0]; simp [*]
  · rintro a next rfl
    dsimp only
    simp only [decide_eq_true_eq]
    rw [if_neg (by omega)]
    exact Ret.some rfl

end Go.Gx

/- Plain laws: set functors. -/
namespace Go.Gx
open Classical
set_option maxHeartbeats 4000000

structure SmallG (F : XSetFunctor) : Prop where
  s1 : SmallC F.Shape
  s2 : Small F.Sizes
  s3 : Small F.Actions
  s4 : ∀ r ∈ F.Actions, Small r
structure FitsG (F : XSetFunctor) : Prop where
  f1 : FitsC F.Shape
  f2 : Fits F.Sizes
  f3 : Fits F.Actions
  f4 : ∀ r ∈ F.Actions, Fits r
/-! ### which are set functors -/
def ActOk (F : XSetFunctor) (a : Int) : Prop := ((el F.Actions a).length : Int) = el F.Sizes (el F.Shape.From a) ∧ In (el F.Sizes (el F.Shape.To a)) (el F.Actions a)
structure ShpG (F : XSetFunctor) : Prop where
  cat : IsCat F.Shape
  ls : (F.Sizes.length : Int) = F.Shape.Objects
  la : (F.Actions.length : Int) = (F.Shape.From.length : Int)
  siz : ∀ i, 0 ≤ i → i < (F.Sizes.length : Int) → 0 ≤ el F.Sizes i ∧ el F.Sizes i ≤ 16
  act : ∀ a, 0 ≤ a → a < (F.Actions.length : Int) → ActOk F a

/-- The image of e under the action of a. -/
abbrev act (F : XSetFunctor) (a e : Int) : Int := el (el F.Actions a) e
end Go.Gx

/- Plain laws: queries: pairs of a variable and an arrow, the least congruence. -/
namespace Go.Gx
open Classical
set_option maxHeartbeats 1000000

instance : Inhabited XTerm := ⟨⟨0, 0⟩⟩
instance : Inhabited XQuery := ⟨⟨[], [], [], []⟩⟩
instance : Inhabited Ximpl_pair_int64 := ⟨⟨0, 0⟩⟩

/-! ### lists -/
theorem elA_l {α : Type} [Inhabited α] {l m : List α} {i : Int} (i0 : 0 ≤ i) (i1 : i < (l.length : Int)) : el (l ++ m) i = el l i := by
  unfold el
  rw [List.getD_eq_getElem?_getD, List.getD_eq_getElem?_getD, List.getElem?_append_left (by omega)]
theorem elA_r {α : Type} [Inhabited α] {l m : List α} {k : Int} (k0 : 0 ≤ k) : el (l ++ m) ((l.length : Int) + k) = el m k := by
  unfold el
  rw [List.getD_eq_getElem?_getD, List.getD_eq_getElem?_getD, List.getElem?_append_right (by omega)]
  congr 2
  omega
theorem elM {α β : Type} [Inhabited α] [Inhabited β] {l : List α} {f : α → β} {i : Int} (i0 : 0 ≤ i) (i1 : i < (l.length : Int)) : el (l.map f) i = f (el l i) := el_map i0 i1
theorem flatI_succ {α : Type} {k : Int} (f : Int → List α) (k0 : 0 ≤ k) : (tab (k + 1) f).flatten = (tab k f).flatten ++ f k := by
  rw [tab_succ _ k0, List.flatten_append]; simp
theorem flatI_len {α : Type} {k : Int} {f : Int → List α} {b : Int} (hk : ∀ i, 0 ≤ i → i < k → ((f i).length : Int) ≤ b) (k0 : 0 ≤ k) : (((tab k f).flatten).length : Int) ≤ k * b := by
  obtain ⟨n, rfl⟩ : ∃ n : Nat, k = n := ⟨k.toNat, by omega⟩
  induction n with
  | zero => simp
  | succ n ih =>
    have ih := ih (fun i i0 i1 => hk i i0 (by push_cast; omega)) (by omega)
    have h := hk (n : Int) (by omega) (by push_cast; omega)
    push_cast
    rw [flatI_succ _ (by omega), List.length_append, Int.add_mul]
    push_cast
    omega
theorem memI {α : Type} {k : Int} {f : Int → List α} {x : α} : x ∈ (tab k f).flatten ↔ ∃ i, 0 ≤ i ∧ i < k ∧ x ∈ f i := by
  rw [List.mem_flatten]
  constructor
  · rintro ⟨l, hl, hx⟩
    obtain ⟨i, i0, i1, rfl⟩ := mem_el hl
    rw [tab_length] at i1
    rw [el_tab i0 (by omega)] at hx
    exact ⟨i, i0, by omega, hx⟩
  · rintro ⟨i, i0, i1, hx⟩
    exact ⟨f i, by rw [← el_tab (f := f) i0 i1]; exact el_mem i0 (by rw [tab_length]; omega), hx⟩
/-- Where the parts of a list of parts stand. -/
theorem flatI_at {α : Type} [Inhabited α] {f : Int → List α} {i k : Int} (i0 : 0 ≤ i) (k0 : 0 ≤ k) (k1 : k < ((f i).length : Int)) : ∀ d : Nat,
    ((((tab i f).flatten).length : Int) + k < (((tab (i + 1 + (d : Int)) f).flatten).length : Int)) ∧ el ((tab (i + 1 + (d : Int)) f).flatten) ((((tab i f).flatten).length : Int) + k) = el (f i) k
  | 0 => by
    rw [show i + 1 + ((0 : Nat) : Int) = i + 1 by omega, flatI_succ _ i0, elA_r k0]
    refine ⟨?_, rfl⟩
    rw [List.length_append]; omega
  | d + 1 => by
    obtain ⟨h1, h2⟩ := flatI_at (f := f) i0 k0 k1 d
    rw [show i + 1 + ((d + 1 : Nat) : Int) = (i + 1 + (d : Int)) + 1 by omega, flatI_succ _ (by omega), elA_l (by omega) h1]
    refine ⟨?_, h2⟩
    rw [List.length_append]; omega
theorem flatI_el {α : Type} [Inhabited α] {f : Int → List α} {n i k : Int} (i0 : 0 ≤ i) (i1 : i < n) (k0 : 0 ≤ k) (k1 : k < ((f i).length : Int)) :
    ((((tab i f).flatten).length : Int) + k < (((tab n f).flatten).length : Int)) ∧ el ((tab n f).flatten) ((((tab i f).flatten).length : Int) + k) = el (f i) k := by
  have := flatI_at (f := f) i0 k0 k1 (n - (i + 1)).toNat
  rwa [show i + 1 + (((n - (i + 1)).toNat : Nat) : Int) = n by omega] at this
theorem pwI_el {α : Type} [Inhabited α] {A : List α} (h : A.Pairwise (· ≠ ·)) {i j : Int} (i0 : 0 ≤ i) (i1 : i < (A.length : Int)) (j0 : 0 ≤ j) (j1 : j < (A.length : Int)) (e : el A i = el A j) : i = j := by
  have hp := List.pairwise_iff_getElem.1 h
  have ei : el A i = A[i.toNat]'(by omega) := by unfold el; rw [List.getD_eq_getElem?_getD, List.getElem?_eq_getElem (by omega)]; rfl
  have ej : el A j = A[j.toNat]'(by omega) := by unfold el; rw [List.getD_eq_getElem?_getD, List.getElem?_eq_getElem (by omega)]; rfl
  rcases Int.lt_trichotomy i j with h1 | h1 | h1
  · exact absurd (by rw [← ei, ← ej]; exact e) (hp i.toNat j.toNat (by omega) (by omega) (by omega))
  · exact h1
  · exact absurd (by rw [← ei, ← ej]; exact e.symm) (hp j.toNat i.toNat (by omega) (by omega) (by omega))
theorem pwI_flat {α : Type} {k : Int} {f : Int → List α} {g : α → Int} (h : ∀ i, (f i).Pairwise (· ≠ ·)) (hc : ∀ i, 0 ≤ i → i < k → ∀ x ∈ f i, g x = i) : ((tab k f).flatten).Pairwise (· ≠ ·) := by
  rw [List.pairwise_flatten]
  refine ⟨fun l hl => ?_, ?_⟩
  · obtain ⟨i, i0, i1, rfl⟩ := mem_el hl
    rw [tab_length] at i1
    rw [el_tab i0 (by omega)]
    exact h i
  · unfold tab
    rw [List.pairwise_map]
    refine List.Pairwise.imp_of_mem (R := fun a b : Nat => a ≠ b) (fun {a b} ha hb hab x hx y hy e => ?_) List.nodup_range
    have h1 := hc a (by omega) (by have := List.mem_range.1 ha; omega) x hx
    have h2 := hc b (by omega) (by have := List.mem_range.1 hb; omega) y hy
    rw [e] at h1
    omega
theorem pwI_map {α : Type} {l : List Int} {f : Int → α} (h : l.Nodup) (hf : ∀ a b, f a = f b → a = b) : (l.map f).Pairwise (· ≠ ·) := by
  rw [List.pairwise_map]
  exact (show l.Pairwise (· ≠ ·) from h).imp fun hab e => hab (hf _ _ e)
theorem Eqv.mapf {P Q : Int → Int → Prop} {f : Int → Int} (h : ∀ x y, P x y → Eqv Q (f x) (f y)) {x y : Int} (e : Eqv P x y) : Eqv Q (f x) (f y) := by
  induction e with
  | of p => exact h _ _ p
  | refl x => exact .refl _
  | symm _ ih => exact .symm ih
  | trans _ _ ih1 ih2 => exact .trans ih1 ih2

/-! ### which are queries -/
def Tm (c : XCategory) (V : List Int) (t : XTerm) : Prop := (0 ≤ t.Variable ∧ t.Variable < (V.length : Int)) ∧ (0 ≤ t.Arrow ∧ t.Arrow < (c.From.length : Int)) ∧ el c.From t.Arrow = el V t.Variable
structure Qok (c : XCategory) (q : XQuery) : Prop where
  cat : IsCat c
  v4 : (q.Variables.length : Int) ≤ 4
  vin : In c.Objects q.Variables
  l6 : (q.Left.length : Int) ≤ 6
  lr : (q.Right.length : Int) = (q.Left.length : Int)
  o4 : (q.Output.length : Int) ≤ 4
  oin : In (q.Variables.length : Int) q.Output
  tm : ∀ k, 0 ≤ k → k < (q.Left.length : Int) → Tm c q.Variables (el q.Left k) ∧ Tm c q.Variables (el q.Right k) ∧ el c.To (el q.Left k).Arrow = el c.To (el q.Right k).Arrow

/-! ### elements -/
/-- A variable and an arrow out of its object. -/
structure Elt (c : XCategory) (V : List Int) (i h : Int) : Prop where
  i0 : 0 ≤ i
  i1 : i < (V.length : Int)
  h0 : 0 ≤ h
  h1 : h < (c.From.length : Int)
  fr : el c.From h = el V i
theorem Tm.elt {c : XCategory} {V : List Int} {t : XTerm} (h : Tm c V t) : Elt c V t.Variable t.Arrow := ⟨h.1.1, h.1.2, h.2.1.1, h.2.1.2, h.2.2⟩
def cd (i h : Int) : Int := i * 64 + h
section
variable {c : XCategory} {V : List Int}
noncomputable def prN (c : XCategory) (V : List Int) (y n : Int) : List (List Int) := (tab n fun i => (homL c (el V i) y).map fun h => [i, h]).flatten
/-- The elements over object y. -/
noncomputable def prL (c : XCategory) (V : List Int) (y : Int) : List (List Int) := prN c V y (V.length : Int)
noncomputable def psn (c : XCategory) (V : List Int) (y i h : Int) : Int := ((prN c V y i).length : Int) + indexL (homL c (el V i) y) h
theorem prN_len (hc : Shp c) (y : Int) {n : Int} (n0 : 0 ≤ n) : ((prN c V y n).length : Int) ≤ n * 40 :=
  flatI_len (fun i _ _ => by rw [List.length_map]; exact homL_len hc _ _) n0
theorem prL_len (hc : Shp c) (hv : (V.length : Int) ≤ 4) (y : Int) : ((prL c V y).length : Int) ≤ 160 := by
  have := prN_len (V := V) hc y (n := (V.length : Int)) (by omega)
  unfold prL; omega
theorem prL_mem {y : Int} {r : List Int} : r ∈ prL c V y ↔ ∃ i h, r = [i, h] ∧ Elt c V i h ∧ el c.To h = y := by
  unfold prL prN
  rw [memI]
  constructor
  · rintro ⟨i, i0, i1, hr⟩
    obtain ⟨h, hh, rfl⟩ := List.mem_map.1 hr
    have hh := homL_mem.1 hh
    exact ⟨i, h, rfl, ⟨i0, i1, hh.1, hh.2.1, hh.2.2.1⟩, hh.2.2.2⟩
  · rintro ⟨i, h, rfl, e, ht⟩
    exact ⟨i, e.i0, e.i1, List.mem_map.2 ⟨h, homL_mem.2 ⟨e.h0, e.h1, e.fr, ht⟩, rfl⟩⟩
theorem prL_pw (c : XCategory) (V : List Int) (y : Int) : (prL c V y).Pairwise (· ≠ ·) := by
  refine pwI_flat (g := fun r => el r 0) (fun i => pwI_map (homL_nodup c _ _) fun a b e => ?_) (fun i i0 i1 x hx => ?_)
  · have e := (List.cons.inj (List.cons.inj e).2).1; exact e
  · obtain ⟨h, _, rfl⟩ := List.mem_map.1 hx; rfl
/-- The variable and the arrow of element p. -/
noncomputable abbrev pv (c : XCategory) (V : List Int) (y p : Int) : Int := el (el (prL c V y) p) 0
noncomputable abbrev ph (c : XCategory) (V : List Int) (y p : Int) : Int := el (el (prL c V y) p) 1
theorem psn_in (hc : Shp c) {i h : Int} (e : Elt c V i h) : (0 ≤ psn c V (el c.To h) i h ∧ psn c V (el c.To h) i h < ((prL c V (el c.To h)).length : Int)) ∧ el (prL c V (el c.To h)) (psn c V (el c.To h) i h) = [i, h] := by
  have hm : h ∈ homL c (el V i) (el c.To h) := homL_mem.2 ⟨e.h0, e.h1, e.fr, rfl⟩
  have hs : Small (homL c (el V i) (el c.To h)) := by have := homL_len hc (el V i) (el c.To h); unfold Small; omega
  have a := indexL_in hs (homL_nodup _ _ _) hm
  have b := flatI_el (f := fun i => (homL c (el V i) (el c.To h)).map fun h => [i, h]) (n := (V.length : Int)) e.i0 e.i1 a.1.1 (by rw [List.length_map]; exact a.1.2)
  refine ⟨⟨by unfold psn; omega, b.1⟩, ?_⟩
  refine Eq.trans b.2 ?_
  rw [elM a.1.1 a.1.2, a.2]
theorem pr_at {y p : Int} (p0 : 0 ≤ p) (p1 : p < ((prL c V y).length : Int)) : el (prL c V y) p = [pv c V y p, ph c V y p] ∧ Elt c V (pv c V y p) (ph c V y p) ∧ el c.To (ph c V y p) = y := by
  obtain ⟨i, h, q, e, ht⟩ := prL_mem.1 (el_mem p0 p1)
  unfold pv ph
  rw [q]
  exact ⟨rfl, e, ht⟩
theorem psn_of (hc : Shp c) {y p : Int} (p0 : 0 ≤ p) (p1 : p < ((prL c V y).length : Int)) : psn c V y (pv c V y p) (ph c V y p) = p := by
  obtain ⟨q, e, ht⟩ := pr_at p0 p1
  have a := psn_in hc e
  rw [ht] at a
  exact pwI_el (prL_pw c V y) a.1.1 a.1.2 p0 p1 (a.2.trans q.symm)
theorem psn_row (hc : Shp c) {y i h : Int} (e : Elt c V i h) (ht : el c.To h = y) : (0 ≤ psn c V y i h ∧ psn c V y i h < ((prL c V y).length : Int)) ∧ pv c V y (psn c V y i h) = i ∧ ph c V y (psn c V y i h) = h := by
  have a := psn_in hc e
  rw [ht] at a
  refine ⟨a.1, ?_, ?_⟩
  · unfold pv; rw [a.2]; rfl
  · unfold ph; rw [a.2]; rfl

/-! ### the least congruence -/
def Gn (c : XCategory) (q : XQuery) (x y : Int) : Prop := ∃ a k, (0 ≤ a ∧ a < (q.Left.length : Int)) ∧ (0 ≤ k ∧ k < (c.From.length : Int)) ∧ el c.From k = el c.To (el q.Left a).Arrow ∧
  x = cd (el q.Left a).Variable (cmp c (el q.Left a).Arrow k) ∧ y = cd (el q.Right a).Variable (cmp c (el q.Right a).Arrow k)
abbrev Cg (c : XCategory) (q : XQuery) : Int → Int → Prop := Eqv (Gn c q)
noncomputable def mvC (c : XCategory) (a e : Int) : Int := if el c.To (e % 64) = el c.From a then cd (e / 64) (cmp c (e % 64) a) else e
theorem cd_div {i h : Int} (h0 : 0 ≤ h) (h1 : h < 64) : cd i h / 64 = i := by unfold cd; omega
theorem cd_mod {i h : Int} (h0 : 0 ≤ h) (h1 : h < 64) : cd i h % 64 = h := by unfold cd; omega
theorem mvC_cd {a i h : Int} (h0 : 0 ≤ h) (h1 : h < 64) : mvC c a (cd i h) = if el c.To h = el c.From a then cd i (cmp c h a) else cd i h := by
  unfold mvC
  rw [cd_div h0 h1, cd_mod h0 h1]
theorem Cg_move {q : XQuery} (hq : Qok c q) {a : Int} (a0 : 0 ≤ a) (a1 : a < (c.From.length : Int)) {x y : Int} (h : Cg c q x y) : Cg c q (mvC c a x) (mvC c a y) := by
  have hS := hq.cat.1.shp
  have m40 := hS.m40
  refine Eqv.mapf (fun x y hg => ?_) h
  obtain ⟨b, k, hb, hk, hf, rfl, rfl⟩ := hg
  have t := hq.tm b hb.1 hb.2
  have L := hS.yes _ k t.1.2.1.1 t.1.2.1.2 hk.1 hk.2 hf.symm
  have hf2 : el c.From k = el c.To (el q.Right b).Arrow := by rw [← t.2.2]; exact hf
  have Rr := hS.yes _ k t.2.1.2.1.1 t.2.1.2.1.2 hk.1 hk.2 hf2.symm
  rw [mvC_cd (by omega) (by omega), mvC_cd (by omega) (by omega), hS.cto _ _ t.1.2.1.1 t.1.2.1.2 hk.1 hk.2 hf.symm, hS.cto _ _ t.2.1.2.1.1 t.2.1.2.1.2 hk.1 hk.2 hf2.symm]
  by_cases e : el c.To k = el c.From a
  · rw [if_pos e, if_pos e]
    have ka := hS.yes k a hk.1 hk.2 a0 a1 e
    refine .of ⟨b, cmp c k a, hb, ka, ?_, ?_, ?_⟩
    · rw [hS.cfrom _ _ hk.1 hk.2 a0 a1 e, hf]
    · rw [hq.cat.2.2 _ _ _ t.1.2.1.1 t.1.2.1.2 hk.1 hk.2 a0 a1 hf.symm e]
    · rw [hq.cat.2.2 _ _ _ t.2.1.2.1.1 t.2.1.2.1.2 hk.1 hk.2 a0 a1 hf2.symm e]
  · rw [if_neg e, if_neg e]
    exact .of ⟨b, k, hb, hk, hf, rfl, rfl⟩

/-- The number of element p over y. -/
noncomputable def cdp (c : XCategory) (V : List Int) (y p : Int) : Int := cd (pv c V y p) (ph c V y p)
/-- Where arrow a takes element p over the source of a. -/
noncomputable def acP (c : XCategory) (V : List Int) (a p : Int) : Int := psn c V (el c.To a) (pv c V (el c.From a) p) (cmp c (ph c V (el c.From a) p) a)
theorem elt_move (hc : Shp c) {a i h : Int} (a0 : 0 ≤ a) (a1 : a < (c.From.length : Int)) (e : Elt c V i h) (ht : el c.To h = el c.From a) : Elt c V i (cmp c h a) ∧ el c.To (cmp c h a) = el c.To a := by
  have y := hc.yes h a e.h0 e.h1 a0 a1 ht
  exact ⟨⟨e.i0, e.i1, y.1, y.2, by rw [hc.cfrom h a e.h0 e.h1 a0 a1 ht, e.fr]⟩, hc.cto h a e.h0 e.h1 a0 a1 ht⟩
theorem acP_in (hc : Shp c) {a p : Int} (a0 : 0 ≤ a) (a1 : a < (c.From.length : Int)) (p0 : 0 ≤ p) (p1 : p < ((prL c V (el c.From a)).length : Int)) :
    (0 ≤ acP c V a p ∧ acP c V a p < ((prL c V (el c.To a)).length : Int)) ∧ cdp c V (el c.To a) (acP c V a p) = mvC c a (cdp c V (el c.From a) p) := by
  have m40 := hc.m40
  obtain ⟨_, e, ht⟩ := pr_at p0 p1
  have m := elt_move hc a0 a1 e ht
  have r := psn_row hc m.1 m.2
  have h0 := e.h0
  have h1 := e.h1
  refine ⟨r.1, ?_⟩
  unfold cdp
  rw [mvC_cd (by omega) (by omega), if_pos ht]
  unfold acP
  rw [r.2.1, r.2.2]
theorem acP_psn (hc : Shp c) {a i h : Int} (e : Elt c V i h) (ht : el c.To h = el c.From a) : acP c V a (psn c V (el c.From a) i h) = psn c V (el c.To a) i (cmp c h a) := by
  have r := psn_row hc e ht
  unfold acP
  rw [r.2.1, r.2.2]

/-! ### counting -/
theorem fil_lt {n : Int} {p q : Int → Bool} (h : ∀ i, 0 ≤ i → i < n → p i = true → q i = true) {k : Int} (k0 : 0 ≤ k) (k1 : k < n) (hq : q k = true) (hp : ¬ p k = true) : ((fil n p).length : Int) < ((fil n q).length : Int) := by
  have le : ∀ m : Nat, (m : Int) ≤ n → ((fil (m : Int) p).length : Int) ≤ ((fil (m : Int) q).length : Int) ∧ (k < (m : Int) → ((fil (m : Int) p).length : Int) < ((fil (m : Int) q).length : Int)) := by
    intro m
    induction m with
    | zero => intro _; exact ⟨by simp, fun z => by omega⟩
    | succ m ih =>
      intro hm
      have ih := ih (by push_cast at hm; omega)
      push_cast
      rw [fil_succ _ (by omega), fil_succ _ (by omega), List.length_append, List.length_append]
      have hh := h (m : Int) (by omega) (by push_cast at hm; omega)
      by_cases e : k = (m : Int)
      · subst e
        rw [if_neg hp, if_pos hq]
        refine ⟨?_, fun _ => ?_⟩ <;> simp only [List.length_cons, List.length_nil] <;> omega
      · by_cases e1 : p (m : Int) = true
        · rw [if_pos e1, if_pos (hh e1)]
          refine ⟨?_, fun z => ?_⟩
          · simp only [List.length_cons, List.length_nil]; omega
          · have := ih.2 (by omega); simp only [List.length_cons, List.length_nil]; omega
        · rw [if_neg e1]
          refine ⟨?_, fun z => ?_⟩
          · simp only [List.length_nil]; omega
          · have := ih.2 (by omega); simp only [List.length_nil]; omega
  have := (le n.toNat (by omega)).2 (by omega)
  rwa [show ((n.toNat : Nat) : Int) = n by omega] at this
/-- Fewer classes where more is one. -/
theorem cnt_coarser {l m : List Int} (sl : Small l) (hl : l.length = m.length) (h : ∀ i j, 0 ≤ i → i < (l.length : Int) → 0 ≤ j → j < (l.length : Int) → el l i = el l j → el m i = el m j)
    {u v : Int} (u0 : 0 ≤ u) (u1 : u < (l.length : Int)) (v0 : 0 ≤ v) (v1 : v < (l.length : Int)) (hn : el l u ≠ el l v) (hm : el m u = el m v) : cnt m (m.length : Int) < cnt l (l.length : Int) := by
  have sm : Small m := by unfold Small at *; omega
  have fu := first_spec sl u0 u1
  have fv := first_spec sl v0 v1
  have lu := ldr_first sl u0 u1
  have lv := ldr_first sl v0 v1
  have ne : indexL l (el l u) ≠ indexL l (el l v) := fun e => hn (by rw [← fu.2.1, e, fv.2.1])
  have mu := h _ _ fu.1.1 (by omega) u0 u1 fu.2.1
  have mv := h _ _ fv.1.1 (by omega) v0 v1 fv.2.1
  have mm : el m (indexL l (el l u)) = el m (indexL l (el l v)) := by rw [mu, mv, hm]
  have sub : ∀ i, 0 ≤ i → i < (l.length : Int) → ldr m i = true → ldr l i = true := by
    intro i i0 i1 hi
    rw [ldr_iff sl i0 i1]
    intro j j0 j1 e
    exact (ldr_iff sm i0 (by omega)).1 hi j j0 j1 (h j i j0 (by omega) i0 i1 e)
  unfold cnt
  rw [← hl]
  rcases Int.lt_trichotomy (indexL l (el l u)) (indexL l (el l v)) with q | q | q
  · refine fil_lt sub fv.1.1 (by omega) lv fun z => ?_
    exact (ldr_iff sm fv.1.1 (by omega)).1 z _ fu.1.1 q mm
  · exact absurd q ne
  · refine fil_lt sub fu.1.1 (by omega) lu fun z => ?_
    exact (ldr_iff sm fu.1.1 (by omega)).1 z _ fv.1.1 q mm.symm
noncomputable def sumT : Nat → (Int → Int) → Int
  | 0, _ => 0
  | n + 1, f => sumT n f + f (n : Int)
theorem sumT_le {f g : Int → Int} : ∀ n : Nat, (∀ i : Int, 0 ≤ i → i < (n : Int) → f i ≤ g i) → sumT n f ≤ sumT n g ∧ ∀ k : Int, 0 ≤ k → k < (n : Int) → f k < g k → sumT n f < sumT n g
  | 0, _ => ⟨by simp [sumT], fun k k0 k1 => by omega⟩
  | n + 1, h => by
    have ih := sumT_le n fun i i0 i1 => h i i0 (by push_cast; omega)
    have hn := h (n : Int) (by omega) (by push_cast; omega)
    unfold sumT
    refine ⟨by omega, fun k k0 k1 hk => ?_⟩
    by_cases e : k = (n : Int)
    · subst e; omega
    · have := ih.2 k k0 (by push_cast at k1; omega) hk
      omega
theorem sumT_bd {f : Int → Int} {B : Int} : ∀ n : Nat, (∀ i : Int, 0 ≤ i → i < (n : Int) → 0 ≤ f i ∧ f i ≤ B) → 0 ≤ sumT n f ∧ sumT n f ≤ (n : Int) * B
  | 0, _ => by simp [sumT]
  | n + 1, h => by
    have ih := sumT_bd n fun i i0 i1 => h i i0 (by push_cast; omega)
    have hn := h (n : Int) (by omega) (by push_cast; omega)
    unfold sumT
    push_cast
    rw [Int.add_mul]
    omega
/-- A class is less than the number of classes. -/
theorem nrm_lt {l : List Int} (sl : Small l) {i : Int} (i0 : 0 ≤ i) (i1 : i < (l.length : Int)) : 0 ≤ el (nrm l) i ∧ el (nrm l) i < cnt l (l.length : Int) := by
  have f := first_spec sl i0 i1
  rw [nrm_el i0 i1]
  exact ⟨(cnt_le f.1.1).1, cnt_lt f.1.1 (by omega) (ldr_first sl i0 i1)⟩
end
end Go.Gx

/- Plain laws: queries: the canonical set functor, by spec. -/
namespace Go.Gx
open Classical
set_option maxHeartbeats 1000000

structure SmallQ (q : XQuery) : Prop where
  s1 : Small q.Variables
  s2 : Small q.Left
  s3 : Small q.Right
  s4 : Small q.Output
variable {c : XCategory} {V : List Int} {q : XQuery}

theorem l38Term_eq (sv : Small V) (t : XTerm) : M.spec_l38Term c V t = some (decide (Tm c V t)) := by
  apply Ret.ask
  unfold Small at sv
  unfold M.spec_l38Term
  rw [wrap_in (by omega) (by omega)]
  refine Ret.call (l01In_eq _ _ _) (Ret.ite (fun h1 => Ret.call (l02Arrow_eq c _) (Ret.ite (fun h2 => ?_) (fun h2 => Ret.some ⟨(fun h => by cases h), fun e => absurd (decide_eq_true e.2.1) h2⟩))) (fun h1 => Ret.some ⟨(fun h => by cases h), fun e => absurd ?_ h1⟩))
  · have h2 := of_decide_eq_true h2
    simp only [Bool.and_eq_true, decide_eq_true_eq] at h1
    refine Ret.idx h2.1 h2.2 (Ret.idx h1.1 (by omega) (Ret.some ?_))
    rw [beq_iff_eq]
    exact ⟨fun e => ⟨⟨h1.1, by omega⟩, h2, e⟩, fun e => e.2.2⟩
  · simp only [Bool.and_eq_true, decide_eq_true_eq]
    have := e.1
    omega

theorem IsQuery_eq (sc : SmallC c) (sq : SmallQ q) : M.spec_IsQuery c q = some (decide (Qok c q)) := by
  apply Ret.ask
  have s2 := sq.s2
  unfold Small at s2
  unfold M.spec_IsQuery
  simp only [bne_iff_ne, ne_eq]
  refine Ret.call (l02Is_eq sc) (Ret.ite (fun h1 => ?_) (fun h1 => Ret.some ⟨(fun h => by cases h), fun e => absurd (decide_eq_true e.cat) h1⟩))
  have h1 := of_decide_eq_true h1
  refine Ret.ite (fun h2 => Ret.some ⟨(fun h => by cases h), fun e => absurd (of_decide_eq_true h2) (by have := e.v4; omega)⟩) (fun h2 => ?_)
  have h2 : (q.Variables.length : Int) ≤ 4 := Int.not_lt.1 fun z => h2 (decide_eq_true z)
  refine Ret.call (l01Map_eq sq.s1) (Ret.ite (fun h3 => ?_) (fun h3 => Ret.some ⟨(fun h => by cases h), fun e => absurd (decide_eq_true e.vin) h3⟩))
  have h3 := of_decide_eq_true h3
  refine Ret.ite (fun h4 => Ret.some ⟨(fun h => by cases h), fun e => absurd (of_decide_eq_true h4) (by have := e.l6; omega)⟩) (fun h4 => ?_)
  have h4 : (q.Left.length : Int) ≤ 6 := Int.not_lt.1 fun z => h4 (decide_eq_true z)
  refine Ret.ite (fun h5 => Ret.some ⟨(fun h => by cases h), fun e => absurd e.lr h5⟩) (fun h5 => ?_)
  have h5 := Decidable.not_not.1 h5
  refine Ret.ite (fun h6 => Ret.some ⟨(fun h => by cases h), fun e => absurd (of_decide_eq_true h6) (by have := e.o4; omega)⟩) (fun h6 => ?_)
  have h6 : (q.Output.length : Int) ≤ 4 := Int.not_lt.1 fun z => h6 (decide_eq_true z)
  refine Ret.call (l01Map_eq sq.s4) (Ret.ite (fun h7 => ?_) (fun h7 => Ret.some ⟨(fun h => by cases h), fun e => absurd (decide_eq_true e.oin) h7⟩))
  have h7 := of_decide_eq_true h7
  have lto := h1.1.shp.lto
  refine Ret.all (q.Left.length : Int) (fun k => Tm c q.Variables (el q.Left k) ∧ Tm c q.Variables (el q.Right k) ∧ el c.To (el q.Left k).Arrow = el c.To (el q.Right k).Arrow) (by omega) (by omega) ?_ ?_
  · intro k next k0 k1 hp hn
    rw [if_pos (decide_eq_true k1)]
    refine Ret.idx k0 k1 (Ret.call (l38Term_eq sq.s1 _) (Ret.ite (fun a => ?_) (fun a => Ret.some ⟨(fun h => by cases h), fun e => absurd (decide_eq_true (e.tm k k0 k1).1) a⟩)))
    have a := of_decide_eq_true a
    refine Ret.idx k0 (by omega) (Ret.call (l38Term_eq sq.s1 _) (Ret.ite (fun b => ?_) (fun b => Ret.some ⟨(fun h => by cases h), fun e => absurd (decide_eq_true (e.tm k k0 k1).2.1) b⟩)))
    have b := of_decide_eq_true b
    refine Ret.idx a.2.1.1 (by have := a.2.1.2; omega) (Ret.idx b.2.1.1 (by have := b.2.1.2; omega) (Ret.ite (fun e1 => Ret.some ⟨(fun h => by cases h), fun e => absurd (e.tm k k0 k1).2.2 e1⟩) (fun e1 => hn ⟨a, b, Decidable.not_not.1 e1⟩)))
  · intro next hp
    rw [if_neg (by simp)]
    exact Ret.some ⟨fun _ => ⟨h1, h2, h3, h4, h5, h6, h7, hp⟩, fun _ => rfl⟩

/-! ### positions -/
theorem l38Pair_eq (hc : Shp c) (hv : (q.Variables.length : Int) ≤ 4) {t : XTerm} (h : Tm c q.Variables t) : M.spec_l38Pair c q t = some (psn c q.Variables (el c.To t.Arrow) t.Variable t.Arrow) := by
  apply Ret.eq
  have lto := hc.lto
  have hm : t.Arrow ∈ homL c (el q.Variables t.Variable) (el c.To t.Arrow) := homL_mem.2 ⟨h.2.1.1, h.2.1.2, h.2.2, rfl⟩
  have hl := homL_len hc (el q.Variables t.Variable) (el c.To t.Arrow)
  have hs : Small (homL c (el q.Variables t.Variable) (el c.To t.Arrow)) := by unfold Small; omega
  have hx := (indexL_in hs (homL_nodup _ _ _) hm).1
  have v0 := h.1.1
  have v1 := h.1.2
  unfold M.spec_l38Pair
  refine Ret.idx h.2.1.1 (by have := h.2.1.2; omega) ?_
  refine Ret.acc t.Variable (fun i s => s = ((prN c q.Variables (el c.To t.Arrow) i).length : Int)) v0 (by omega) rfl ?_ ?_
  · rintro i s next i0 i1 rfl hn
    have L := prN_len (V := q.Variables) hc (el c.To t.Arrow) i0
    have L2 := homL_len hc (el q.Variables i) (el c.To t.Arrow)
    dsimp only
    rw [if_pos (decide_eq_true i1)]
    refine Ret.idx i0 (by omega) (Ret.call (l02Hom_eq hc _ _) (hn _ ?_))
    rw [wrap_in (by omega) (by omega)]
    unfold prN
    rw [flatI_succ _ i0, List.length_append, List.length_map]
    push_cast
    rfl
  · rintro s next rfl
    have L := prN_len (V := q.Variables) hc (el c.To t.Arrow) v0
    dsimp only
    rw [if_neg (by simp)]
    refine Ret.idx v0 v1 (Ret.call (l02Hom_eq hc _ _) (Ret.call (l01Index_eq hs _) (Ret.some ?_)))
    rw [wrap_in (by omega) (by omega)]
    rfl

theorem placeI {A : List (List Int)} (sm : Small A) (sr : ∀ x ∈ A, (x.length : Int) ≤ 9) (pw : A.Pairwise (· ≠ ·)) {i : Int} (i0 : 0 ≤ i) (i1 : i < (A.length : Int)) : M.spec_l05Place A (el A i) = some i := by
  apply Ret.eq
  unfold Small at sm
  unfold M.spec_l05Place
  refine Ret.all (A.length : Int) (fun j => el A j ≠ el A i) (by omega) (by omega) ?_ ?_
  · intro j next j0 j1 hp hn
    rw [if_pos (decide_eq_true j1)]
    have lj := sr _ (el_mem j0 j1)
    have li := sr _ (el_mem i0 i1)
    refine Ret.idx j0 j1 (Ret.call (l01Same_eq (by unfold Small; omega) (by unfold Small; omega)) (Ret.ite (fun e => Ret.some ?_) (fun e => hn fun z => e (decide_eq_true z))))
    exact pwI_el pw j0 j1 i0 i1 (of_decide_eq_true e)
  · intro next hp
    exact absurd rfl (hp i i0 i1)
theorem prL_row {y : Int} : ∀ x ∈ prL c V y, (x.length : Int) ≤ 9 := fun x hx => by
  obtain ⟨i, h, rfl, _⟩ := prL_mem.1 hx
  simp
theorem place_psn (hc : Shp c) (hv : (V.length : Int) ≤ 4) {y i h : Int} (e : Elt c V i h) (ht : el c.To h = y) : M.spec_l05Place (prL c V y) [i, h] = some (psn c V y i h) := by
  have a := psn_in hc e
  rw [ht] at a
  have L := prL_len hc hv y
  have := placeI (A := prL c V y) (by unfold Small; omega) prL_row (prL_pw c V y) a.1.1 a.1.2
  rwa [a.2] at this

/-! ### the free set functor -/
noncomputable def szP (c : XCategory) (V : List Int) (y : Int) : Int := ((prL c V y).length : Int)
noncomputable def freeG (c : XCategory) (V : List Int) : XSetFunctor := ⟨c, tab c.Objects (szP c V), tab (c.From.length : Int) fun a => tab (szP c V (el c.From a)) (acP c V a)⟩
noncomputable def pr2 (c : XCategory) (V : List Int) (k h y : Int) : List (List Int) := prN c V y k ++ (fil h fun s => el c.From s == el V k && el c.To s == y).map fun s => [k, s]
theorem pr2_zero (k y : Int) : pr2 c V k 0 y = prN c V y k := by unfold pr2; simp
theorem pr2_all {k y : Int} (k0 : 0 ≤ k) : pr2 c V k (c.From.length : Int) y = prN c V y (k + 1) := by
  unfold prN
  rw [flatI_succ _ k0]
  rfl
theorem pr2_succ {k h y : Int} (h0 : 0 ≤ h) : pr2 c V k (h + 1) y = pr2 c V k h y ++ if el c.From h = el V k ∧ el c.To h = y then [[k, h]] else [] := by
  unfold pr2
  rw [fil_succ _ h0, List.map_append, ← List.append_assoc]
  congr 1
  by_cases e : el c.From h = el V k ∧ el c.To h = y
  · rw [if_pos e, if_pos (by rw [beq_iff_eq.2 e.1, beq_iff_eq.2 e.2]; rfl)]; rfl
  · rw [if_neg e, if_neg (fun z => e (by simpa [Bool.and_eq_true] using z))]; rfl
theorem pr2_len (hc : Shp c) {k h y : Int} (k0 : 0 ≤ k) (k1 : k ≤ 4) (h1 : h ≤ 40) : ((pr2 c V k h y).length : Int) ≤ 200 := by
  have a := prN_len (V := V) hc y k0
  have b := fil_length_le h fun s => el c.From s == el V k && el c.To s == y
  unfold pr2
  rw [List.length_append, List.length_map]
  omega

theorem l19Free_eq (hc : Shp c) (hv : (V.length : Int) ≤ 4) : M.spec_l19Free c V = some (freeG c V) := by
  apply Ret.eq
  have n0 := hc.n0
  have n8 := hc.n8
  have m40 := hc.m40
  have lto := hc.lto
  unfold M.spec_l19Free
  refine Ret.chk ⟨n0, by unfold lim; omega⟩ ?_
  refine Ret.acc (V.length : Int) (fun k s => s = tab c.Objects fun y => prN c V y k) (by omega) (by omega) ?_ ?_ ?_
  · rw [rep_tab]; apply tab_congr; intro y y0 y1; rfl
  · rintro k s next k0 k1 rfl hn
    dsimp only
    rw [if_pos (decide_eq_true k1)]
    refine Ret.acc (c.From.length : Int) (fun h s => s = tab c.Objects fun y => pr2 c V k h y) (by omega) (by omega) ?_ ?_ ?_
    · apply tab_congr; intro y y0 y1; exact (pr2_zero k y).symm
    · rintro h s nx h0 h1 rfl hn2
      have th := hc.to_in h h0 h1
      dsimp only
      rw [if_pos (decide_eq_true h1)]
      refine Ret.idx h0 h1 (Ret.idx k0 k1 (Ret.ite (fun e => ?_) (fun e => hn2 _ ?_)))
      · have e : el c.From h = el V k := beq_iff_eq.1 e
        refine Ret.idx h0 (by omega) (Ret.idx th.1 (by rw [tab_length]; omega) ?_)
        rw [el_tab th.1 th.2]
        refine Ret.chk ?_ (hn2 _ ?_)
        · have := pr2_len (V := V) (y := el c.To h) hc k0 (by omega) (h := h) (by omega)
          unfold lim; omega
        · rw [set_tab th.1]
          apply tab_congr
          intro y y0 y1
          rw [pr2_succ h0]
          by_cases ey : y = el c.To h
          · rw [if_pos ey, if_pos ⟨e, ey.symm⟩, ey]
          · rw [if_neg ey, if_neg fun z => ey z.2.symm, List.append_nil]
      · apply tab_congr
        intro y y0 y1
        rw [pr2_succ h0, if_neg fun z => e (beq_iff_eq.2 z.1), List.append_nil]
    · rintro s nx rfl
      dsimp only
      rw [if_neg (by simp)]
      refine hn _ ?_
      apply tab_congr; intro y y0 y1; exact pr2_all k0
  · rintro s next rfl
    dsimp only
    rw [if_neg (by simp)]
    refine Ret.call (l02Own_eq hc.small) ?_
    have LT : (((tab c.Objects fun y => prN c V y (V.length : Int)).length : Nat) : Int) = c.Objects := by rw [tab_length]; omega
    rw [LT]
    have at_ : ∀ y, 0 ≤ y → y < c.Objects → el (tab c.Objects fun y => prN c V y (V.length : Int)) y = prL c V y := fun y y0 y1 => el_tab y0 y1
    refine Ret.acc c.Objects (fun i s => s = tab i (szP c V)) n0 (by omega) rfl ?_ ?_
    · rintro i s nx i0 i1 rfl hn
      dsimp only
      rw [if_pos (decide_eq_true i1)]
      refine Ret.idx i0 (by omega) ?_
      rw [at_ i i0 i1]
      refine Ret.chk ?_ (hn _ (tab_succ _ i0).symm)
      unfold lim; rw [tab_length]; simp only [List.length_cons, List.length_nil]; omega
    · rintro s nx rfl
      dsimp only
      rw [if_neg (by simp)]
      refine Ret.acc (c.From.length : Int) (fun a s => s = tab a fun a => tab (szP c V (el c.From a)) (acP c V a)) (by omega) (by omega) rfl ?_ ?_
      · rintro a s nx a0 a1 rfl hn
        have fa := hc.from_in a a0 a1
        have ta := hc.to_in a a0 a1
        have L := prL_len (V := V) hc hv (el c.From a)
        dsimp only
        rw [if_pos (decide_eq_true a1)]
        refine Ret.idx a0 a1 (Ret.idx fa.1 (by omega) (Ret.idx a0 (by omega) (Ret.idx ta.1 (by omega) ?_)))
        rw [at_ _ fa.1 fa.2, at_ _ ta.1 ta.2]
        refine Ret.acc ((prL c V (el c.From a)).length : Int) (fun p s => s = tab p (acP c V a)) (by omega) (by omega) rfl ?_ ?_
        · rintro p s nx2 p0 p1 rfl hn2
          obtain ⟨er, ee, et⟩ := pr_at p0 p1
          have m := elt_move hc a0 a1 ee et
          have lr : ((el (prL c V (el c.From a)) p).length : Int) = 2 := by rw [er]; rfl
          dsimp only
          rw [if_pos (decide_eq_true p1)]
          refine Ret.idx p0 p1 (Ret.idx (by omega) (by omega) (Ret.idx (by omega) (by omega) (Ret.call (l02Then_in hc ⟨ee.h0, ee.h1⟩ ⟨a0, a1⟩) (Ret.call (place_psn hc hv m.1 m.2) (Ret.chk ?_ (hn2 _ (tab_succ _ p0).symm))))))
          unfold lim; rw [tab_length]; simp only [List.length_cons, List.length_nil]; omega
        · rintro s nx2 rfl
          dsimp only
          rw [if_neg (by simp)]
          refine Ret.chk ?_ (hn _ (tab_succ _ a0).symm)
          unfold lim; rw [tab_length]; omega
      · rintro s nx rfl
        dsimp only
        rw [if_neg (by simp)]
        exact Ret.some rfl

/-! ### classes -/
/-- A row of classes over x: numbered as they come, made one only as the congruence says, the conditions' sides made one. -/
structure RowOk (c : XCategory) (q : XQuery) (x : Int) (r : List Int) : Prop where
  le : (r.length : Int) = szP c q.Variables x
  nm : nrm r = r
  sd : ∀ u v, 0 ≤ u → u < (r.length : Int) → 0 ≤ v → v < (r.length : Int) → el r u = el r v → Cg c q (cdp c q.Variables x u) (cdp c q.Variables x v)
  bs : ∀ k, 0 ≤ k → k < (q.Left.length : Int) → el c.To (el q.Left k).Arrow = x → el r (psn c q.Variables x (el q.Left k).Variable (el q.Left k).Arrow) = el r (psn c q.Variables x (el q.Right k).Variable (el q.Right k).Arrow)
structure CInv (c : XCategory) (q : XQuery) (C : List (List Int)) : Prop where
  ln : (C.length : Int) = c.Objects
  row : ∀ x, 0 ≤ x → x < c.Objects → RowOk c q x (el C x)
noncomputable abbrev cl (C : List (List Int)) (x p : Int) : Int := el (el C x) p
def Closed (c : XCategory) (q : XQuery) (C : List (List Int)) (a : Int) : Prop := ∀ u v, 0 ≤ u → u < szP c q.Variables (el c.From a) → 0 ≤ v → v < szP c q.Variables (el c.From a) →
  cl C (el c.From a) u = cl C (el c.From a) v → cl C (el c.To a) (acP c q.Variables a u) = cl C (el c.To a) (acP c q.Variables a v)
structure CFin (c : XCategory) (q : XQuery) (C : List (List Int)) : Prop where
  inv : CInv c q C
  clo : ∀ a, 0 ≤ a → a < (c.From.length : Int) → Closed c q C a
noncomputable def szC (c : XCategory) (C : List (List Int)) : List Int := tab c.Objects fun x => cnt (el C x) ((el C x).length : Int)
noncomputable def Ms (c : XCategory) (C : List (List Int)) : Int := sumT c.Objects.toNat fun x => cnt (el C x) ((el C x).length : Int)

theorem szP_le (hq : Qok c q) (x : Int) : 0 ≤ szP c q.Variables x ∧ szP c q.Variables x ≤ 160 := by
  have := prL_len hq.cat.1.shp hq.v4 x
  unfold szP; omega
theorem RowOk.small (hq : Qok c q) {x : Int} {r : List Int} (h : RowOk c q x r) : Small r := by
  have := szP_le hq x
  have := h.le
  unfold Small; omega
theorem psn_rg (hq : Qok c q) {t : XTerm} (h : Tm c q.Variables t) : 0 ≤ psn c q.Variables (el c.To t.Arrow) t.Variable t.Arrow ∧ psn c q.Variables (el c.To t.Arrow) t.Variable t.Arrow < szP c q.Variables (el c.To t.Arrow) :=
  (psn_in hq.cat.1.shp h.elt).1

/-- What is joined. -/
theorem rowJoin (hq : Qok c q) {x : Int} {p : List (List Int)} (sp : (p.length : Int) ≤ 1073741824) (hp : PairsIn (szP c q.Variables x) p)
    (hs : ∀ u v, PairAt p (p.length : Int) u v → Cg c q (cdp c q.Variables x u) (cdp c q.Variables x v)) :
    Ret (M.spec_l01Join (szP c q.Variables x) p) fun r => ((r.length : Int) = szP c q.Variables x ∧ nrm r = r ∧
      (∀ u v, 0 ≤ u → u < (r.length : Int) → 0 ≤ v → v < (r.length : Int) → el r u = el r v → Cg c q (cdp c q.Variables x u) (cdp c q.Variables x v))) ∧ ∀ u v, PairAt p (p.length : Int) u v → el r u = el r v := by
  have z := szP_le hq x
  refine (l01Join_r z.1 (by omega) sp hp).mono ?_
  rintro r ⟨l, rfl, hl, hk⟩
  have sl : Small l := by unfold Small; omega
  have e := nrm_len (l := l)
  refine ⟨⟨by omega, nrm_idem sl, fun u v u0 u1 v0 v1 h => ?_⟩, fun u v h => ?_⟩
  · have h2 := (hk u v u0 (by omega) v0 (by omega)).1 ((nrm_ker sl u0 (by omega) v0 (by omega)).1 h)
    exact Eqv.mapf hs h2
  · obtain ⟨k, k0, k1, rfl, rfl⟩ := id h
    have g := hp k k0 k1
    exact (nrm_ker sl g.2.1.1 (by omega) g.2.2.1 (by omega)).2 ((hk _ _ g.2.1.1 g.2.1.2 g.2.2.1 g.2.2.2).2 (.of h))

/-! ### the conditions -/
noncomputable def bsP (c : XCategory) (q : XQuery) (x n : Int) : List (List Int) := (fil n fun k => el c.To (el q.Left k).Arrow == x).map fun k => [psn c q.Variables x (el q.Left k).Variable (el q.Left k).Arrow, psn c q.Variables x (el q.Right k).Variable (el q.Right k).Arrow]
theorem bsP_at {x n k : Int} (k0 : 0 ≤ k) (k1 : k < ((bsP c q x n).length : Int)) : ∃ j, (0 ≤ j ∧ j < n) ∧ el c.To (el q.Left j).Arrow = x ∧ el (bsP c q x n) k = [psn c q.Variables x (el q.Left j).Variable (el q.Left j).Arrow, psn c q.Variables x (el q.Right j).Variable (el q.Right j).Arrow] := by
  have hm := el_mem k0 k1
  obtain ⟨j, hj, e⟩ := List.mem_map.1 (show el (bsP c q x n) k ∈ (fil n fun k => el c.To (el q.Left k).Arrow == x).map _ from hm)
  have hj := fil_mem.1 hj
  exact ⟨j, ⟨hj.1, hj.2.1⟩, beq_iff_eq.1 hj.2.2, e.symm⟩
theorem bsP_in {x n j : Int} (j0 : 0 ≤ j) (j1 : j < n) (h : el c.To (el q.Left j).Arrow = x) : PairAt (bsP c q x n) ((bsP c q x n).length : Int) (psn c q.Variables x (el q.Left j).Variable (el q.Left j).Arrow) (psn c q.Variables x (el q.Right j).Variable (el q.Right j).Arrow) := by
  have hm : [psn c q.Variables x (el q.Left j).Variable (el q.Left j).Arrow, psn c q.Variables x (el q.Right j).Variable (el q.Right j).Arrow] ∈ bsP c q x n := List.mem_map.2 ⟨j, fil_mem.2 ⟨j0, j1, beq_iff_eq.2 h⟩, rfl⟩
  obtain ⟨k, k0, k1, e⟩ := mem_el hm
  exact ⟨k, k0, k1, by rw [e]; rfl, by rw [e]; rfl⟩
theorem cond_gen (hq : Qok c q) {j : Int} (j0 : 0 ≤ j) (j1 : j < (q.Left.length : Int)) : Cg c q (cdp c q.Variables (el c.To (el q.Left j).Arrow) (psn c q.Variables (el c.To (el q.Left j).Arrow) (el q.Left j).Variable (el q.Left j).Arrow))
    (cdp c q.Variables (el c.To (el q.Left j).Arrow) (psn c q.Variables (el c.To (el q.Left j).Arrow) (el q.Right j).Variable (el q.Right j).Arrow)) := by
  have hS := hq.cat.1.shp
  have t := hq.tm j j0 j1
  have r1 := psn_row hS t.1.elt rfl
  have r2 := psn_row hS t.2.1.elt t.2.2.symm
  have ti := hS.to_in _ t.1.2.1.1 t.1.2.1.2
  have id := hS.id_in _ ti.1 ti.2
  unfold cdp
  rw [r1.2.1, r1.2.2, r2.2.1, r2.2.2]
  refine .of ⟨j, el c.Identity (el c.To (el q.Left j).Arrow), ⟨j0, j1⟩, id, hS.id_from _ ti.1 ti.2, ?_, ?_⟩
  · rw [(hq.cat.2.1 _ t.1.2.1.1 t.1.2.1.2).2]
  · rw [t.2.2, (hq.cat.2.1 _ t.2.1.2.1.1 t.2.1.2.1.2).2]

theorem bsP_ok (hq : Qok c q) (x : Int) : PairsIn (szP c q.Variables x) (bsP c q x (q.Left.length : Int)) ∧ ∀ u v, PairAt (bsP c q x (q.Left.length : Int)) ((bsP c q x (q.Left.length : Int)).length : Int) u v → Cg c q (cdp c q.Variables x u) (cdp c q.Variables x v) := by
  refine ⟨fun k k0 k1 => ?_, ?_⟩
  · obtain ⟨j, hj, ht, e⟩ := bsP_at k0 k1
    have t := hq.tm j hj.1 hj.2
    have a := psn_rg hq t.1
    have b := psn_rg hq t.2.1
    rw [← t.2.2] at b
    rw [ht] at a b
    rw [e]
    exact ⟨by simp, a, b⟩
  · rintro u v ⟨k, k0, k1, rfl, rfl⟩
    obtain ⟨j, hj, ht, e⟩ := bsP_at k0 k1
    rw [e]
    subst ht
    exact cond_gen hq hj.1 hj.2

/-! ### the classes are moved along the arrows -/
noncomputable def fsC (C : List (List Int)) (x p : Int) : Int := indexL (el C x) (cl C x p)
noncomputable def bad (c : XCategory) (V : List Int) (C : List (List Int)) (a p : Int) : Bool := cl C (el c.To a) (acP c V a (fsC C (el c.From a) p)) != cl C (el c.To a) (acP c V a p)
noncomputable def mvL (c : XCategory) (V : List Int) (C : List (List Int)) (a n : Int) : List (List Int) := (fil n (bad c V C a)).map fun p => [acP c V a (fsC C (el c.From a) p), acP c V a p]
noncomputable def prsL (l : List Int) : List (List Int) := tab (l.length : Int) fun i => [indexL l (el l i), i]
theorem l01Pairs_eq {l : List Int} (sl : Small l) : M.spec_l01Pairs l = some (prsL l) := by
  apply Ret.eq
  unfold Small at sl
  unfold M.spec_l01Pairs
  refine Ret.acc (l.length : Int) (fun i s => s = tab i fun i => [indexL l (el l i), i]) (by omega) (by omega) rfl ?_ ?_
  · rintro i s next i0 i1 rfl hn
    dsimp only
    rw [if_pos (decide_eq_true i1)]
    refine Ret.idx i0 i1 (Ret.call (l01Index_eq (by unfold Small; omega) _) (Ret.chk ?_ (hn _ (tab_succ _ i0).symm)))
    unfold lim; rw [tab_length]; omega
  · rintro s next rfl
    dsimp only
    rw [if_neg (by simp)]
    exact Ret.some rfl

theorem CInv.len {C : List (List Int)} (h : CInv c q C) {x : Int} (x0 : 0 ≤ x) (x1 : x < c.Objects) : ((el C x).length : Int) = szP c q.Variables x := (h.row x x0 x1).le
theorem fsC_in (hq : Qok c q) {C : List (List Int)} (h : CInv c q C) {x p : Int} (x0 : 0 ≤ x) (x1 : x < c.Objects) (p0 : 0 ≤ p) (p1 : p < szP c q.Variables x) :
    (0 ≤ fsC C x p ∧ fsC C x p < szP c q.Variables x) ∧ cl C x (fsC C x p) = cl C x p := by
  have r := h.row x x0 x1
  have f := first_spec (r.small hq) p0 (by have := r.le; omega)
  exact ⟨⟨f.1.1, Int.lt_of_le_of_lt f.1.2 p1⟩, f.2.1⟩

/-- The row behind a round. -/
theorem moved_r (hq : Qok c q) {C : List (List Int)} (h : CInv c q C) {a : Int} (a0 : 0 ≤ a) (a1 : a < (c.From.length : Int)) :
    Ret (M.spec_l01Join (szP c q.Variables (el c.To a)) (prsL (el C (el c.To a)) ++ mvL c q.Variables C a (szP c q.Variables (el c.From a)))) fun r => RowOk c q (el c.To a) r ∧
      (∀ u v, 0 ≤ u → u < szP c q.Variables (el c.To a) → 0 ≤ v → v < szP c q.Variables (el c.To a) → cl C (el c.To a) u = cl C (el c.To a) v → el r u = el r v) ∧
      ∀ p, 0 ≤ p → p < szP c q.Variables (el c.From a) → bad c q.Variables C a p = true → el r (acP c q.Variables a (fsC C (el c.From a) p)) = el r (acP c q.Variables a p) := by
  have hS := hq.cat.1.shp
  have fa := hS.from_in a a0 a1
  have ta := hS.to_in a a0 a1
  have rx := h.row _ fa.1 fa.2
  have ry := h.row _ ta.1 ta.2
  have lx := rx.le
  have ly := ry.le
  have zx := szP_le hq (el c.From a)
  have zy := szP_le hq (el c.To a)
  have sy := ry.small hq
  have lp : ((prsL (el C (el c.To a))).length : Int) = szP c q.Variables (el c.To a) := by unfold prsL; rw [tab_length]; omega
  have lm : ((mvL c q.Variables C a (szP c q.Variables (el c.From a))).length : Int) ≤ 160 := by
    have := fil_length_le (szP c q.Variables (el c.From a)) (bad c q.Variables C a)
    unfold mvL; rw [List.length_map]; omega
  have ll : ((prsL (el C (el c.To a)) ++ mvL c q.Variables C a (szP c q.Variables (el c.From a))).length : Int) = szP c q.Variables (el c.To a) + ((mvL c q.Variables C a (szP c q.Variables (el c.From a))).length : Int) := by rw [List.length_append]; omega
  -- each pair is of one kind or the other
  have kinds : ∀ k, 0 ≤ k → k < ((prsL (el C (el c.To a)) ++ mvL c q.Variables C a (szP c q.Variables (el c.From a))).length : Int) →
      (∃ i, 0 ≤ i ∧ i < szP c q.Variables (el c.To a) ∧ el (prsL (el C (el c.To a)) ++ mvL c q.Variables C a (szP c q.Variables (el c.From a))) k = [fsC C (el c.To a) i, i]) ∨
      ∃ p, 0 ≤ p ∧ p < szP c q.Variables (el c.From a) ∧ el (prsL (el C (el c.To a)) ++ mvL c q.Variables C a (szP c q.Variables (el c.From a))) k = [acP c q.Variables a (fsC C (el c.From a) p), acP c q.Variables a p] := by
    intro k k0 k1
    by_cases e : k < szP c q.Variables (el c.To a)
    · refine .inl ⟨k, k0, e, ?_⟩
      rw [elA_l k0 (by omega)]
      unfold prsL
      rw [el_tab k0 (by omega)]
      rfl
    · have e2 : el (prsL (el C (el c.To a)) ++ mvL c q.Variables C a (szP c q.Variables (el c.From a))) k = el (mvL c q.Variables C a (szP c q.Variables (el c.From a))) (k - szP c q.Variables (el c.To a)) := by
        have := elA_r (l := prsL (el C (el c.To a))) (m := mvL c q.Variables C a (szP c q.Variables (el c.From a))) (k := k - szP c q.Variables (el c.To a)) (by omega)
        rwa [show ((prsL (el C (el c.To a))).length : Int) + (k - szP c q.Variables (el c.To a)) = k by omega] at this
      have hm : el (mvL c q.Variables C a (szP c q.Variables (el c.From a))) (k - szP c q.Variables (el c.To a)) ∈ mvL c q.Variables C a (szP c q.Variables (el c.From a)) := el_mem (by omega) (by omega)
      obtain ⟨p, hp, e3⟩ := List.mem_map.1 hm
      have hp := fil_mem.1 hp
      exact .inr ⟨p, hp.1, hp.2.1, by rw [e2, ← e3]⟩
  have ac := fun p (p0 : 0 ≤ p) (p1 : p < szP c q.Variables (el c.From a)) => acP_in (V := q.Variables) hS a0 a1 p0 p1
  have pin : PairsIn (szP c q.Variables (el c.To a)) (prsL (el C (el c.To a)) ++ mvL c q.Variables C a (szP c q.Variables (el c.From a))) := by
    intro k k0 k1
    rcases kinds k k0 k1 with ⟨i, i0, i1, e⟩ | ⟨p, p0, p1, e⟩
    · have f := fsC_in hq h ta.1 ta.2 i0 i1
      rw [e]
      exact ⟨by simp, f.1, i0, i1⟩
    · have f := fsC_in hq h fa.1 fa.2 p0 p1
      rw [e]
      exact ⟨by simp, (ac _ f.1.1 f.1.2).1, (ac p p0 p1).1⟩
  have snd : ∀ u v, PairAt (prsL (el C (el c.To a)) ++ mvL c q.Variables C a (szP c q.Variables (el c.From a))) ((prsL (el C (el c.To a)) ++ mvL c q.Variables C a (szP c q.Variables (el c.From a))).length : Int) u v → Cg c q (cdp c q.Variables (el c.To a) u) (cdp c q.Variables (el c.To a) v) := by
    rintro u v ⟨k, k0, k1, rfl, rfl⟩
    rcases kinds k k0 k1 with ⟨i, i0, i1, e⟩ | ⟨p, p0, p1, e⟩
    · have f := fsC_in hq h ta.1 ta.2 i0 i1
      rw [e]
      exact ry.sd _ _ f.1.1 (by rw [ly]; exact f.1.2) i0 (by rw [ly]; exact i1) f.2
    · have f := fsC_in hq h fa.1 fa.2 p0 p1
      rw [e]
      show Cg c q (cdp c q.Variables (el c.To a) (acP c q.Variables a (fsC C (el c.From a) p))) (cdp c q.Variables (el c.To a) (acP c q.Variables a p))
      rw [(ac _ f.1.1 f.1.2).2, (ac p p0 p1).2]
      exact Cg_move hq a0 a1 (rx.sd _ _ f.1.1 (by rw [lx]; exact f.1.2) p0 (by rw [lx]; exact p1) f.2)
  refine (rowJoin hq (by omega) pin snd).mono ?_
  rintro r ⟨⟨r1, r2, r3⟩, r4⟩
  have old : ∀ i, 0 ≤ i → i < szP c q.Variables (el c.To a) → el r (fsC C (el c.To a) i) = el r i := fun i i0 i1 => r4 _ _ ⟨i, i0, by omega, by
    rw [elA_l i0 (by omega)]; unfold prsL; rw [el_tab i0 (by omega)]; rfl, by
    rw [elA_l i0 (by omega)]; unfold prsL; rw [el_tab i0 (by omega)]; rfl⟩
  have coarse : ∀ u v, 0 ≤ u → u < szP c q.Variables (el c.To a) → 0 ≤ v → v < szP c q.Variables (el c.To a) → cl C (el c.To a) u = cl C (el c.To a) v → el r u = el r v := by
    intro u v u0 u1 v0 v1 e
    rw [← old u u0 u1, ← old v v0 v1]
    unfold fsC
    rw [e]
  refine ⟨⟨r1, r2, r3, fun k k0 k1 e => ?_⟩, coarse, fun p p0 p1 hb => ?_⟩
  · have t := hq.tm k k0 k1
    have b1 := psn_rg hq t.1
    have b2 := psn_rg hq t.2.1
    rw [← t.2.2] at b2
    rw [e] at b1 b2
    exact coarse _ _ b1.1 b1.2 b2.1 b2.2 (ry.bs k k0 k1 e)
  · have hm : [acP c q.Variables a (fsC C (el c.From a) p), acP c q.Variables a p] ∈ mvL c q.Variables C a (szP c q.Variables (el c.From a)) := List.mem_map.2 ⟨p, fil_mem.2 ⟨p0, p1, hb⟩, rfl⟩
    obtain ⟨k, k0, k1, e⟩ := mem_el hm
    have ek := elA_r (l := prsL (el C (el c.To a))) (m := mvL c q.Variables C a (szP c q.Variables (el c.From a))) k0
    rw [e] at ek
    exact r4 _ _ ⟨((prsL (el C (el c.To a))).length : Int) + k, by omega, by omega, by rw [ek]; rfl, by rw [ek]; rfl⟩
end Go.Gx

/- Plain laws: queries: the classes are complete; what spec answers. -/
namespace Go.Gx
open Classical
set_option maxHeartbeats 1000000

variable {c : XCategory} {q : XQuery}

theorem setRow {C : List (List Int)} (h : CInv c q C) {y : Int} (y0 : 0 ≤ y) (y1 : y < c.Objects) {N : List Int} (hN : RowOk c q y N) : CInv c q (C.set y.toNat N) := by
  have ln := h.ln
  refine ⟨by rw [List.length_set]; exact ln, fun x x0 x1 => ?_⟩
  rw [el_set y0 (by omega) x0]
  split
  · subst_vars; exact hN
  · exact h.row x x0 x1
theorem setRow_lt (hq : Qok c q) {C : List (List Int)} (h : CInv c q C) {y : Int} (y0 : 0 ≤ y) (y1 : y < c.Objects) {N : List Int} (hN : RowOk c q y N)
    (hc : ∀ u v, 0 ≤ u → u < szP c q.Variables y → 0 ≤ v → v < szP c q.Variables y → cl C y u = cl C y v → el N u = el N v)
    {u v : Int} (u0 : 0 ≤ u) (u1 : u < szP c q.Variables y) (v0 : 0 ≤ v) (v1 : v < szP c q.Variables y) (hn : cl C y u ≠ cl C y v) (hm : el N u = el N v) : Ms c (C.set y.toNat N) < Ms c C := by
  have ln := h.ln
  have r := h.row y y0 y1
  have le := r.le
  have le2 := hN.le
  have lt : cnt N (N.length : Int) < cnt (el C y) ((el C y).length : Int) := cnt_coarser (r.small hq) (by omega) (fun i j i0 i1 j0 j1 e => hc i j i0 (by omega) j0 (by omega) e) u0 (by omega) v0 (by omega) hn hm
  have at_ : ∀ x, 0 ≤ x → el (C.set y.toNat N) x = if x = y then N else el C x := fun x x0 => el_set y0 (by omega) x0
  unfold Ms
  refine (sumT_le c.Objects.toNat fun i i0 i1 => ?_).2 y y0 (by omega) ?_
  · rw [at_ i i0]
    split
    · subst_vars; omega
    · exact Int.le_refl _
  · rw [at_ y y0, if_pos rfl]; exact lt
theorem Ms_bd (hq : Qok c q) {C : List (List Int)} (h : CInv c q C) : 0 ≤ Ms c C ∧ Ms c C ≤ 1280 := by
  have n8 := hq.cat.1.shp.n8
  have n0 := hq.cat.1.shp.n0
  have := sumT_bd (f := fun x => cnt (el C x) ((el C x).length : Int)) (B := 160) c.Objects.toNat fun x x0 x1 => by
    have r := h.row x x0 (by omega)
    have a := cnt_le (l := el C x) (i := ((el C x).length : Int)) (by omega)
    have b := szP_le hq x
    have := r.le
    exact ⟨a.1, by omega⟩
  unfold Ms
  omega
theorem bad_no {C : List (List Int)} {a : Int} (hb : ∀ p, 0 ≤ p → p < szP c q.Variables (el c.From a) → ¬ bad c q.Variables C a p = true) : Closed c q C a := by
  intro u v u0 u1 v0 v1 e
  have hu := hb u u0 u1
  have hv := hb v v0 v1
  unfold bad at hu hv
  simp only [bne_iff_ne, ne_eq, Decidable.not_not] at hu hv
  have : fsC C (el c.From a) u = fsC C (el c.From a) v := by unfold fsC; rw [e]
  rw [← hu, ← hv, this]

/-- One round over all arrows. -/
theorem pass_r (hq : Qok c q) {C : List (List Int)} (h : CInv c q C) {ρ : Type} {Q : ρ → Prop} {fin : (List (List Int)) × Bool × Int → Option ρ}
    (hfin : ∀ C' more, CInv c q C' → ((more = false ∧ C' = C ∧ ∀ a, 0 ≤ a → a < (c.From.length : Int) → Closed c q C a) ∨ (more = true ∧ Ms c C' < Ms c C)) → Ret (fin (C', more, (c.From.length : Int))) Q) :
    Ret (iter (fun (s27 : (List (List Int)) × Bool × Int) next28 =>
            if decide (s27.2.2 < ((freeG c q.Variables).Actions.length : Int)) then
              (idx c.From s27.2.2).bind fun y32 =>
              (idx c.To s27.2.2).bind fun y33 =>
              iter (fun (s34 : (List (List Int)) × Int) next35 =>
                (idx s27.1 y32).bind fun y38 =>
                if decide (s34.2 < (y38.length : Int)) then
                  (idx y38 s34.2).bind fun y40 =>
                  (M.spec_l01Index y38 y40).bind fun v41 =>
                  (idx (freeG c q.Variables).Actions s27.2.2).bind fun y42 =>
                  (idx y42 v41).bind fun y43 =>
                  (idx y42 s34.2).bind fun y44 =>
                  (idx s27.1 y33).bind fun y45 =>
                  (idx y45 y43).bind fun y46 =>
                  (idx y45 y44).bind fun y47 =>
                  if y46 != y47 then
                    chk (s34.1.length + 1 ≤ lim) (
                      next35 (s34.1 ++ [[y43, y44]], IntKind.i64.wrap (s34.2 + 1)))
                  else
                    next35 (s34.1, IntKind.i64.wrap (s34.2 + 1))
                else
                  if decide ((s34.1.length : Int) > 0) then
                    (idx (freeG c q.Variables).Sizes y33).bind fun y51 =>
                    (idx s27.1 y33).bind fun y52 =>
                    (M.spec_l01Pairs y52).bind fun v53 =>
                    chk (v53.length + s34.1.length ≤ lim) (
                      (M.spec_l01Join y51 (v53 ++ s34.1)).bind fun v55 =>
                      next28 (s27.1.set y33.toNat v55, true, IntKind.i64.wrap (s27.2.2 + 1)))
                  else
                    next28 (s27.1, s27.2.1, IntKind.i64.wrap (s27.2.2 + 1))) fuel (([] : List (List Int)), 0)
            else
              fin s27) fuel (C, false, 0)) Q := by
  have hS := hq.cat.1.shp
  have m40 := hS.m40
  have lto := hS.lto
  have LA : (((freeG c q.Variables).Actions.length : Nat) : Int) = (c.From.length : Int) := by unfold freeG; dsimp only; rw [tab_length]; omega
  refine Ret.loop (c.From.length : Int) (fun a s => s.2.2 = a ∧ CInv c q s.1 ∧ ((s.2.1 = false ∧ s.1 = C ∧ ∀ b, 0 ≤ b → b < a → Closed c q C b) ∨ (s.2.1 = true ∧ Ms c s.1 < Ms c C))) (by omega) (by omega) ⟨rfl, h, .inl ⟨rfl, rfl, fun b b0 b1 => by omega⟩⟩ ?_ ?_
  · rintro a ⟨C', more, a'⟩ next a0 a1 ⟨rfl, h', hm⟩ hn
    dsimp only at a0 a1 h' hm hn ⊢
    have fa := hS.from_in a' a0 a1
    have ta := hS.to_in a' a0 a1
    have rx := h'.row _ fa.1 fa.2
    have ry := h'.row _ ta.1 ta.2
    have lx := rx.le
    have ly := ry.le
    have zx := szP_le hq (el c.From a')
    have zy := szP_le hq (el c.To a')
    have ln := h'.ln
    have eA : el (freeG c q.Variables).Actions a' = tab (szP c q.Variables (el c.From a')) (acP c q.Variables a') := by rw [show (freeG c q.Variables).Actions = tab (c.From.length : Int) (fun a => tab (szP c q.Variables (el c.From a)) (acP c q.Variables a)) from rfl, el_tab a0 a1]
    have eZ : el (freeG c q.Variables).Sizes (el c.To a') = szP c q.Variables (el c.To a') := by unfold freeG; exact el_tab ta.1 ta.2
    have LZ : (((freeG c q.Variables).Sizes.length : Nat) : Int) = c.Objects := by unfold freeG; dsimp only; rw [tab_length]; omega
    rw [LA, if_pos (decide_eq_true a1)]
    refine Ret.idx a0 a1 (Ret.idx a0 (by omega) ?_)
    refine Ret.acc (szP c q.Variables (el c.From a')) (fun e s => s = mvL c q.Variables C' a' e) (by omega) (by omega) rfl ?_ ?_
    · rintro e s nx e0 e1 rfl hn2
      have f := fsC_in hq h' fa.1 fa.2 e0 e1
      have A1 := (acP_in (V := q.Variables) hS a0 a1 f.1.1 f.1.2).1
      have A2 := (acP_in (V := q.Variables) hS a0 a1 e0 e1).1
      have lm := fil_length_le e (bad c q.Variables C' a')
      dsimp only
      refine Ret.idx fa.1 (by omega) ?_
      rw [lx, if_pos (decide_eq_true e1)]
      refine Ret.idx e0 (by omega) (Ret.call (show M.spec_l01Index _ _ = some (fsC C' (el c.From a') e) from l01Index_eq (rx.small hq) _) ?_)
      refine Ret.idx a0 (by omega) ?_
      rw [eA]
      refine Ret.idx f.1.1 (by rw [tab_length]; omega) (Ret.idx e0 (by rw [tab_length]; omega) ?_)
      rw [el_tab f.1.1 f.1.2, el_tab e0 e1]
      refine Ret.idx ta.1 (by omega) (Ret.idx A1.1 (by rw [ly]; exact A1.2) (Ret.idx A2.1 (by rw [ly]; exact A2.2) ?_))
      refine Ret.ite (fun hb => Ret.chk ?_ (hn2 _ ?_)) (fun hb => hn2 _ ?_)
      · unfold lim mvL; rw [List.length_map]; omega
      · unfold mvL
        rw [fil_succ _ e0, if_pos (show bad c q.Variables C' a' e = true from hb), List.map_append]; rfl
      · unfold mvL
        rw [fil_succ _ e0, if_neg (show ¬ bad c q.Variables C' a' e = true from hb), List.append_nil]
    · rintro s nx rfl
      dsimp only
      refine Ret.idx fa.1 (by omega) ?_
      rw [lx, if_neg (by simp)]
      have lm := fil_length_le (szP c q.Variables (el c.From a')) (bad c q.Variables C' a')
      refine Ret.ite (fun hp => ?_) (fun hp => ?_)
      · have hp := of_decide_eq_true hp
        refine Ret.idx ta.1 (by omega) ?_
        rw [eZ]
        refine Ret.idx ta.1 (by omega) (Ret.call (l01Pairs_eq (ry.small hq)) (Ret.chk ?_ ?_))
        · unfold lim prsL mvL; rw [tab_length, List.length_map]; omega
        refine Ret.bind (moved_r hq h' a0 a1) ?_
        rintro r ⟨r1, r2, r3⟩
        -- one of them is new
        have hx : ∃ p, p ∈ fil (szP c q.Variables (el c.From a')) (bad c q.Variables C' a') := by
          unfold mvL at hp
          rw [List.length_map] at hp
          exact ⟨_, el_mem (i := 0) (by omega) (by omega)⟩
        obtain ⟨p, hp2⟩ := hx
        have hp2 := fil_mem.1 hp2
        have f := fsC_in hq h' fa.1 fa.2 hp2.1 hp2.2.1
        have A1 := (acP_in (V := q.Variables) hS a0 a1 f.1.1 f.1.2).1
        have A2 := (acP_in (V := q.Variables) hS a0 a1 hp2.1 hp2.2.1).1
        have lt := setRow_lt hq h' ta.1 ta.2 r1 r2 A1.1 A1.2 A2.1 A2.2 (by have := hp2.2.2; unfold bad at this; simpa using this) (r3 p hp2.1 hp2.2.1 hp2.2.2)
        refine hn _ ⟨wrap_in (by omega) (by omega), setRow h' ta.1 ta.2 r1, .inr ⟨rfl, ?_⟩⟩
        dsimp only
        rcases hm with ⟨_, rfl, _⟩ | ⟨_, hm⟩
        · exact lt
        · exact Int.lt_trans lt hm
      · have hp : ¬ (((mvL c q.Variables C' a' (szP c q.Variables (el c.From a'))).length : Int) > 0) := fun z => hp (decide_eq_true z)
        have hb : ∀ p, 0 ≤ p → p < szP c q.Variables (el c.From a') → ¬ bad c q.Variables C' a' p = true := fun p p0 p1 hb => by
          have hm := fil_mem.2 ⟨p0, p1, hb⟩
          have := List.length_pos_of_mem hm
          unfold mvL at hp
          rw [List.length_map] at hp
          omega
        refine hn _ ⟨wrap_in (by omega) (by omega), h', ?_⟩
        dsimp only
        rcases hm with ⟨e1, rfl, e3⟩ | hm
        · refine .inl ⟨e1, rfl, fun b b0 b1 => ?_⟩
          by_cases e : b = a'
          · subst e; exact bad_no hb
          · exact e3 b b0 (by omega)
        · exact .inr hm
  · rintro ⟨C', more, a'⟩ next ⟨rfl, h', hm⟩
    dsimp only at h' hm ⊢
    rw [LA, if_neg (by simp)]
    exact hfin C' more h' hm

/-- The rounds. -/
theorem sat_r (hq : Qok c q) {C0 : List (List Int)} (h : CInv c q C0) {ρ : Type} {Q : ρ → Prop} {fin : (List (List Int)) × Bool → Option ρ} (hfin : ∀ C, CFin c q C → Ret (fin (C, false)) Q) :
    Ret (iter (fun (s22 : (List (List Int)) × Bool) next23 =>
        if s22.2 then
          iter (fun (s27 : (List (List Int)) × Bool × Int) next28 =>
            if decide (s27.2.2 < ((freeG c q.Variables).Actions.length : Int)) then
              (idx c.From s27.2.2).bind fun y32 =>
              (idx c.To s27.2.2).bind fun y33 =>
              iter (fun (s34 : (List (List Int)) × Int) next35 =>
                (idx s27.1 y32).bind fun y38 =>
                if decide (s34.2 < (y38.length : Int)) then
                  (idx y38 s34.2).bind fun y40 =>
                  (M.spec_l01Index y38 y40).bind fun v41 =>
                  (idx (freeG c q.Variables).Actions s27.2.2).bind fun y42 =>
                  (idx y42 v41).bind fun y43 =>
                  (idx y42 s34.2).bind fun y44 =>
                  (idx s27.1 y33).bind fun y45 =>
                  (idx y45 y43).bind fun y46 =>
                  (idx y45 y44).bind fun y47 =>
                  if y46 != y47 then
                    chk (s34.1.length + 1 ≤ lim) (
                      next35 (s34.1 ++ [[y43, y44]], IntKind.i64.wrap (s34.2 + 1)))
                  else
                    next35 (s34.1, IntKind.i64.wrap (s34.2 + 1))
                else
                  if decide ((s34.1.length : Int) > 0) then
                    (idx (freeG c q.Variables).Sizes y33).bind fun y51 =>
                    (idx s27.1 y33).bind fun y52 =>
                    (M.spec_l01Pairs y52).bind fun v53 =>
                    chk (v53.length + s34.1.length ≤ lim) (
                      (M.spec_l01Join y51 (v53 ++ s34.1)).bind fun v55 =>
                      next28 (s27.1.set y33.toNat v55, true, IntKind.i64.wrap (s27.2.2 + 1)))
                  else
                    next28 (s27.1, s27.2.1, IntKind.i64.wrap (s27.2.2 + 1))) fuel (([] : List (List Int)), 0)
            else
              next23 (s27.1, s27.2.1)) fuel (s22.1, false, 0)
        else
          fin s22) fuel (C0, true)) Q := by
  have b0 := Ms_bd hq h
  refine Ret.loop 1300 (fun i s => CInv c q s.1 ∧ ((s.2 = true ∧ Ms c s.1 + 1 ≤ 1300 - i) ∨ (s.2 = false ∧ ∀ a, 0 ≤ a → a < (c.From.length : Int) → Closed c q s.1 a))) (by omega) (by omega) ⟨h, .inl ⟨rfl, by dsimp only; omega⟩⟩ ?_ ?_
  · rintro i ⟨C, more⟩ next i0 i1 ⟨h', hm⟩ hn
    dsimp only at h' hm ⊢
    rcases hm with ⟨rfl, hm⟩ | ⟨rfl, hm⟩
    · rw [if_pos rfl]
      refine pass_r hq h' (fin := fun s => next (s.1, s.2.1)) fun C' more h2 hm2 => hn _ ⟨h2, ?_⟩
      dsimp only
      rcases hm2 with ⟨e, rfl, hc⟩ | ⟨e, hl⟩
      · exact .inr ⟨e, hc⟩
      · exact .inl ⟨e, by omega⟩
    · rw [if_neg (by simp)]
      exact hfin C ⟨h', hm⟩
  · rintro ⟨C, more⟩ next ⟨h', hm⟩
    dsimp only at h' hm ⊢
    rcases hm with ⟨rfl, hm⟩ | ⟨rfl, hm⟩
    · have := (Ms_bd hq h').1
      omega
    · rw [if_neg (by simp)]
      exact hfin C ⟨h', hm⟩

/-- The classes that the conditions make. -/
theorem base_r (hq : Qok c q) {ρ : Type} {Q : ρ → Prop} {fin : (List (List Int)) × Int → Option ρ} (hfin : ∀ C, CInv c q C → Ret (fin (C, c.Objects)) Q) :
    Ret (iter (fun (s2 : (List (List Int)) × Int) next3 =>
    if decide (s2.2 < c.Objects) then
      iter (fun (s7 : (List (List Int)) × Int) next8 =>
        if decide (s7.2 < (q.Left.length : Int)) then
          (idx q.Left s7.2).bind fun y12 =>
          (idx c.To y12.Arrow).bind fun y13 =>
          if y13 == s2.2 then
            (M.spec_l38Pair c q y12).bind fun v15 =>
            (idx q.Right s7.2).bind fun y16 =>
            (M.spec_l38Pair c q y16).bind fun v17 =>
            chk (s7.1.length + 1 ≤ lim) (
              next8 (s7.1 ++ [[v15, v17]], IntKind.i64.wrap (s7.2 + 1)))
          else
            next8 (s7.1, IntKind.i64.wrap (s7.2 + 1))
        else
          (idx (freeG c q.Variables).Sizes s2.2).bind fun y19 =>
          (M.spec_l01Join y19 s7.1).bind fun v20 =>
          chk (s2.1.length + 1 ≤ lim) (
            next3 (s2.1 ++ [v20], IntKind.i64.wrap (s2.2 + 1)))) fuel (([] : List (List Int)), 0)
    else
      fin s2) fuel (([] : List (List Int)), 0)) Q := by
  have hS := hq.cat.1.shp
  have n0 := hS.n0
  have n8 := hS.n8
  have lto := hS.lto
  have l6 := hq.l6
  have lr := hq.lr
  have LZ : (((freeG c q.Variables).Sizes.length : Nat) : Int) = c.Objects := by unfold freeG; dsimp only; rw [tab_length]; omega
  refine Ret.acc c.Objects (fun i s => (s.length : Int) = i ∧ ∀ x, 0 ≤ x → x < i → RowOk c q x (el s x)) n0 (by omega) ⟨rfl, fun x x0 x1 => by omega⟩ ?_ ?_
  · rintro i s next i0 i1 ⟨ls, hs⟩ hn
    have eZ : el (freeG c q.Variables).Sizes i = szP c q.Variables i := by unfold freeG; exact el_tab i0 i1
    dsimp only
    rw [if_pos (decide_eq_true i1)]
    refine Ret.acc (q.Left.length : Int) (fun k t => t = bsP c q i k) (by omega) (by omega) rfl ?_ ?_
    · rintro k t nx k0 k1 rfl hn2
      have tk := hq.tm k k0 k1
      have lm := fil_length_le k fun k => el c.To (el q.Left k).Arrow == i
      dsimp only
      rw [if_pos (decide_eq_true k1)]
      refine Ret.idx k0 k1 (Ret.idx tk.1.2.1.1 (by have := tk.1.2.1.2; omega) (Ret.ite (fun e => ?_) (fun e => hn2 _ ?_)))
      · have e2 : el c.To (el q.Left k).Arrow = i := beq_iff_eq.1 e
        have p1 := l38Pair_eq hS hq.v4 tk.1
        have p2 := l38Pair_eq hS hq.v4 tk.2.1
        rw [← tk.2.2, e2] at p2
        rw [e2] at p1
        refine Ret.call p1 (Ret.idx k0 (by omega) (Ret.call p2 (Ret.chk ?_ (hn2 _ ?_))))
        · unfold lim bsP; rw [List.length_map]; omega
        · unfold bsP
          rw [fil_succ _ k0, if_pos e, List.map_append]; rfl
      · unfold bsP
        rw [fil_succ _ k0, if_neg e, List.append_nil]
    · rintro t nx rfl
      dsimp only
      rw [if_neg (by simp)]
      have ok := bsP_ok hq i
      have lm := fil_length_le (q.Left.length : Int) fun k => el c.To (el q.Left k).Arrow == i
      refine Ret.idx i0 (by omega) ?_
      rw [eZ]
      refine Ret.bind (rowJoin hq (by unfold bsP; rw [List.length_map]; omega) ok.1 ok.2) ?_
      rintro r ⟨⟨r1, r2, r3⟩, r4⟩
      refine Ret.chk (by unfold lim; omega) (hn _ ⟨by rw [List.length_append, List.length_singleton]; omega, fun x x0 x1 => ?_⟩)
      by_cases e : x = i
      · subst e
        have : el (s ++ [r]) x = r := by
          have := elA_r (l := s) (m := [r]) (k := 0) (by omega)
          rwa [show (s.length : Int) + 0 = x by omega] at this
        rw [this]
        exact ⟨r1, r2, r3, fun k k0 k1 e => r4 _ _ (bsP_in k0 k1 e)⟩
      · rw [elA_l x0 (by omega)]
        exact hs x x0 (by omega)
  · rintro s next ⟨ls, hs⟩
    dsimp only
    rw [if_neg (by simp)]
    exact hfin s ⟨ls, hs⟩

/-! ### the quotient -/
theorem szC_at {C : List (List Int)} {x : Int} (x0 : 0 ≤ x) (x1 : x < c.Objects) : el (szC c C) x = cnt (el C x) ((el C x).length : Int) := el_tab x0 x1
theorem cl_lt (hq : Qok c q) {C : List (List Int)} (h : CInv c q C) {x p : Int} (x0 : 0 ≤ x) (x1 : x < c.Objects) (p0 : 0 ≤ p) (p1 : p < szP c q.Variables x) : 0 ≤ cl C x p ∧ cl C x p < el (szC c C) x := by
  have r := h.row x x0 x1
  have := nrm_lt (r.small hq) p0 (by rw [r.le]; exact p1)
  rw [r.nm] at this
  rw [szC_at x0 x1]
  exact this
theorem quot_r (hq : Qok c q) {C : List (List Int)} (h : CFin c q C) : Ret (M.spec_l21Quotient (freeG c q.Variables) C) fun r => r.Sizes = szC c C ∧ (r.Actions.length : Int) = (c.From.length : Int) ∧
    ∀ a, 0 ≤ a → a < (c.From.length : Int) → ((el r.Actions a).length : Int) = el (szC c C) (el c.From a) ∧ ∀ p, 0 ≤ p → p < szP c q.Variables (el c.From a) → el (el r.Actions a) (cl C (el c.From a) p) = cl C (el c.To a) (acP c q.Variables a p) := by
  have hS := hq.cat.1.shp
  have n0 := hS.n0
  have n8 := hS.n8
  have m40 := hS.m40
  have lto := hS.lto
  have ln := h.inv.ln
  have LA : (((freeG c q.Variables).Actions.length : Nat) : Int) = (c.From.length : Int) := by unfold freeG; dsimp only; rw [tab_length]; omega
  have LZ : ((szC c C).length : Int) = c.Objects := by unfold szC; rw [tab_length]; omega
  unfold M.spec_l21Quotient
  refine Ret.call (l02Own_eq (show SmallC (freeG c q.Variables).Shape from hS.small)) ?_
  refine Ret.acc (C.length : Int) (fun i s => s = tab i fun x => cnt (el C x) ((el C x).length : Int)) (by omega) (by omega) rfl ?_ ?_
  · rintro i s next i0 i1 rfl hn
    have r := h.inv.row i i0 (by omega)
    have sm := r.small hq
    have zi := szP_le hq i
    have le := r.le
    dsimp only
    rw [if_pos (decide_eq_true i1)]
    refine Ret.acc ((el C i).length : Int) (fun e s => s = cnt (el C i) e) (by omega) (by omega) rfl ?_ ?_
    · rintro e s nx e0 e1 rfl hn2
      have f := first_spec sm e0 e1
      have c1 := cnt_le (l := el C i) f.1.1
      have ci := cnt_le (l := el C i) e0
      have en : el (el C i) e = cnt (el C i) (indexL (el C i) (el (el C i) e)) := by
        have := nrm_el (l := el C i) e0 e1
        rwa [r.nm] at this
      dsimp only
      refine Ret.idx i0 i1 ?_
      rw [if_pos (decide_eq_true e1)]
      refine Ret.idx e0 e1 ?_
      rw [show IntKind.i64.wrap (el (el C i) e + 1) = el (el C i) e + 1 from wrap_in (by omega) (by omega)]
      refine hn2 _ ?_
      rw [cnt_succ e0]
      by_cases hl : ldr (el C i) e = true
      · have hf : indexL (el C i) (el (el C i) e) = e := by unfold ldr at hl; exact beq_iff_eq.1 hl
        rw [en, hf, if_pos hl, if_pos (by omega)]
      · have hne : indexL (el C i) (el (el C i) e) ≠ e := fun z => hl (by unfold ldr; exact beq_iff_eq.2 z)
        have := cnt_lt (l := el C i) (j := e) f.1.1 (by omega) (ldr_first sm e0 e1)
        rw [en, if_neg hl, if_neg (by omega)]; omega
    · rintro s nx rfl
      dsimp only
      refine Ret.idx i0 i1 ?_
      rw [if_neg (by simp)]
      refine Ret.chk ?_ (hn _ (tab_succ _ i0).symm)
      unfold lim; rw [tab_length]; simp only [List.length_cons, List.length_nil]; omega
  · rintro s next rfl
    dsimp only
    rw [if_neg (by simp), ln]
    change Ret (iter _ fuel (([] : List (List Int)), 0)) _
    refine Ret.acc (c.From.length : Int) (fun a s => (s.length : Int) = a ∧ ∀ b, 0 ≤ b → b < a → ((el s b).length : Int) = el (szC c C) (el c.From b) ∧ ∀ p, 0 ≤ p → p < szP c q.Variables (el c.From b) → el (el s b) (cl C (el c.From b) p) = cl C (el c.To b) (acP c q.Variables b p)) (by omega) (by omega) ⟨rfl, fun b b0 b1 => by omega⟩ ?_ ?_
    · rintro a s nx a0 a1 ⟨ls, hs⟩ hn
      have fa := hS.from_in a a0 a1
      have ta := hS.to_in a a0 a1
      have rx := h.inv.row _ fa.1 fa.2
      have ry := h.inv.row _ ta.1 ta.2
      have lx := rx.le
      have ly := ry.le
      have zx := szP_le hq (el c.From a)
      have cx := cnt_le (l := el C (el c.From a)) (i := ((el C (el c.From a)).length : Int)) (by omega)
      have eA : el (freeG c q.Variables).Actions a = tab (szP c q.Variables (el c.From a)) (acP c q.Variables a) := by rw [show (freeG c q.Variables).Actions = tab (c.From.length : Int) (fun a => tab (szP c q.Variables (el c.From a)) (acP c q.Variables a)) from rfl, el_tab a0 a1]
      have eS := szC_at (c := c) (C := C) fa.1 fa.2
      dsimp only
      rw [LA, if_pos (decide_eq_true a1)]
      refine Ret.idx a0 a1 (Ret.idx a0 (by show a < (c.To.length : Int); omega) (Ret.idx fa.1 (by show el c.From a < ((szC c C).length : Int); omega) ?_))
      change Ret (chk (0 ≤ el (szC c C) (el c.From a) ∧ el (szC c C) (el c.From a) ≤ (lim : Int)) _) _
      refine Ret.chk ⟨by omega, by unfold lim; omega⟩ ?_
      refine Ret.acc (szP c q.Variables (el c.From a)) (fun e t => (t.length : Int) = el (szC c C) (el c.From a) ∧ ∀ p, 0 ≤ p → p < e → el t (cl C (el c.From a) p) = cl C (el c.To a) (acP c q.Variables a p)) (by omega) (by omega) ⟨by rw [List.length_replicate]; show (((el (szC c C) (el c.From a)).toNat : Nat) : Int) = _; omega, fun p p0 p1 => by omega⟩ ?_ ?_
      · rintro e t nx2 e0 e1 ⟨lt, ht⟩ hn2
        have A2 := (acP_in (V := q.Variables) hS a0 a1 e0 e1).1
        have ce := cl_lt hq h.inv fa.1 fa.2 e0 e1
        dsimp only
        refine Ret.idx fa.1 (by show el c.From a < (C.length : Int); omega) ?_
        change Ret (if decide (e < ((el C (el c.From a)).length : Int)) = true then _ else _) _
        rw [lx, if_pos (decide_eq_true e1)]
        refine Ret.idx e0 (by show e < ((el C (el c.From a)).length : Int); omega) (Ret.idx ta.1 (by show el c.To a < (C.length : Int); omega) (Ret.idx a0 (by omega) ?_))
        rw [eA]
        refine Ret.idx e0 (by rw [tab_length]; omega) ?_
        rw [el_tab e0 e1]
        refine Ret.idx A2.1 (by show acP c q.Variables a e < ((el C (el c.To a)).length : Int); rw [ly]; exact A2.2) (Ret.idx ce.1 (by rw [lt]; exact ce.2) (hn2 _ ⟨by rw [List.length_set]; exact lt, fun p p0 p1 => ?_⟩))
        have cp := cl_lt hq h.inv fa.1 fa.2 p0 (by omega)
        change el (t.set (cl C (el c.From a) e).toNat (cl C (el c.To a) (acP c q.Variables a e))) (cl C (el c.From a) p) = _
        rw [el_set ce.1 (by rw [lt]; exact ce.2) cp.1]
        by_cases z : cl C (el c.From a) p = cl C (el c.From a) e
        · rw [if_pos z]
          exact (h.clo a a0 a1 p e p0 (by omega) e0 e1 z).symm
        · rw [if_neg z]
          refine ht p p0 ?_
          rcases Int.lt_trichotomy p e with w | w | w
          · exact w
          · subst w; exact absurd rfl z
          · omega
      · rintro t nx2 ⟨lt, ht⟩
        dsimp only
        refine Ret.idx fa.1 (by show el c.From a < (C.length : Int); omega) ?_
        change Ret (if decide (szP c q.Variables (el c.From a) < ((el C (el c.From a)).length : Int)) = true then _ else _) _
        rw [lx, if_neg (by simp)]
        refine Ret.chk (by unfold lim; omega) (hn _ ⟨by rw [List.length_append, List.length_singleton]; omega, fun b b0 b1 => ?_⟩)
        by_cases e : b = a
        · subst e
          have : el (s ++ [t]) b = t := by
            have := elA_r (l := s) (m := [t]) (k := 0) (by omega)
            rwa [show (s.length : Int) + 0 = b by omega] at this
          rw [this]
          exact ⟨lt, ht⟩
        · rw [elA_l b0 (by omega)]
          exact hs b b0 (by omega)
    · rintro s nx ⟨ls, hs⟩
      dsimp only
      rw [LA, if_neg (by simp)]
      exact Ret.some ⟨rfl, ls, hs⟩

/-! ### the canonical set functor -/
noncomputable def genL (c : XCategory) (q : XQuery) (C : List (List Int)) : List Int := tab (q.Variables.length : Int) fun i => cl C (el q.Variables i) (psn c q.Variables (el q.Variables i) i (el c.Identity (el q.Variables i)))
theorem l21Made_all {r : XSetFunctor} (s : Small r.Sizes) (h0 : ∀ i, 0 ≤ i → i < (r.Sizes.length : Int) → 0 ≤ el r.Sizes i) : M.spec_l21Made r = some (if In 17 r.Sizes then 0 else 3) := by
  apply Ret.eq
  unfold Small at s
  unfold M.spec_l21Made
  simp only [decide_eq_true_eq]
  refine Ret.all (r.Sizes.length : Int) (fun i => el r.Sizes i ≤ 16) (by omega) (by omega) ?_ ?_
  · intro i next i0 i1 hp hn
    rw [if_pos i1]
    refine Ret.idx i0 i1 (Ret.ite (fun x => Ret.some ?_) (fun x => hn (by omega)))
    rw [if_neg (fun hI => by have := hI i i0 i1; omega)]
  · intro next hp
    rw [if_neg (by omega)]
    refine Ret.some ?_
    rw [if_pos (fun i i0 i1 => by have := hp i i0 i1; have := h0 i i0 i1; omega)]
theorem id_elt (hq : Qok c q) {i : Int} (i0 : 0 ≤ i) (i1 : i < (q.Variables.length : Int)) : Tm c q.Variables ⟨i, el c.Identity (el q.Variables i)⟩ ∧ el c.To (el c.Identity (el q.Variables i)) = el q.Variables i := by
  have hS := hq.cat.1.shp
  have v := hq.vin i i0 i1
  exact ⟨⟨⟨i0, i1⟩, hS.id_in _ v.1 v.2, hS.id_from _ v.1 v.2⟩, hS.id_to _ v.1 v.2⟩

theorem canon_r (hq : Qok c q) : Ret (M.spec_l38Canonical c q) fun r => ∃ C, CFin c q C ∧ r.2.1 = genL c q C ∧ r.2.2 = decide (In 17 (szC c C)) ∧ (r.1.Actions.length : Int) = (c.From.length : Int) ∧
    ∀ a, 0 ≤ a → a < (c.From.length : Int) → ((el r.1.Actions a).length : Int) = el (szC c C) (el c.From a) ∧ ∀ p, 0 ≤ p → p < szP c q.Variables (el c.From a) → el (el r.1.Actions a) (cl C (el c.From a) p) = cl C (el c.To a) (acP c q.Variables a p) := by
  have hS := hq.cat.1.shp
  have n0 := hS.n0
  have n8 := hS.n8
  have v4 := hq.v4
  have lid := hS.lid
  unfold M.spec_l38Canonical
  refine Ret.call (l19Free_eq hS v4) (base_r hq fun C0 h0 => ?_)
  dsimp only
  refine sat_r hq h0 fun C hC => ?_
  dsimp only
  have ln := hC.inv.ln
  refine Ret.bind (quot_r hq hC) ?_
  rintro r ⟨r1, r2, r3⟩
  refine Ret.acc (q.Variables.length : Int) (fun i s => s = tab i fun i => cl C (el q.Variables i) (psn c q.Variables (el q.Variables i) i (el c.Identity (el q.Variables i)))) (by omega) (by omega) rfl ?_ ?_
  · rintro i s next i0 i1 rfl hn
    have v := hq.vin i i0 i1
    have e := id_elt hq i0 i1
    have p := l38Pair_eq hS v4 e.1
    have g := psn_rg hq e.1
    dsimp only at p g
    rw [e.2] at p g
    have le := hC.inv.len v.1 v.2
    dsimp only
    rw [if_pos (decide_eq_true i1)]
    refine Ret.idx i0 i1 (Ret.idx v.1 (by omega) (Ret.idx v.1 (by omega) (Ret.call p (Ret.idx g.1 (by rw [le]; exact g.2) (Ret.chk ?_ (hn _ (tab_succ _ i0).symm))))))
    unfold lim; rw [tab_length]; simp only [List.length_cons, List.length_nil]; omega
  · rintro s next rfl
    dsimp only
    rw [if_neg (by simp)]
    have nn : ∀ i, 0 ≤ i → i < (r.Sizes.length : Int) → 0 ≤ el r.Sizes i := by
      intro i i0 i1
      rw [r1] at i1 ⊢
      have i2 : i < c.Objects := by unfold szC at i1; rw [tab_length] at i1; omega
      rw [szC_at i0 i2]
      exact (cnt_le (by omega)).1
    refine Ret.call (l21Made_all (by rw [r1]; unfold Small szC; rw [tab_length]; omega) nn) (Ret.some ⟨C, hC, rfl, ?_, r2, r3⟩)
    dsimp only
    rw [r1]
    by_cases hI : In 17 (szC c C)
    · rw [if_pos hI, decide_eq_true hI]; rfl
    · rw [if_neg hI, decide_eq_false hI]; rfl

/-- The answer by the classes. -/
noncomputable def ansC (c : XCategory) (q : XQuery) (C : List (List Int)) (l r : XTerm) : Bool := cl C (el c.To l.Arrow) (psn c q.Variables (el c.To l.Arrow) l.Variable l.Arrow) == cl C (el c.To r.Arrow) (psn c q.Variables (el c.To r.Arrow) r.Variable r.Arrow)
theorem l38Implied_r (hq : Qok c q) {l r : XTerm} (hl : Tm c q.Variables l) (hr : Tm c q.Variables r) : Ret (M.spec_l38Implied c q l r) fun w => ∃ C, CFin c q C ∧ w = if In 17 (szC c C) then (ansC c q C l r, true) else (false, false) := by
  have hS := hq.cat.1.shp
  unfold M.spec_l38Implied
  refine Ret.bind (canon_r hq) ?_
  rintro ⟨f, g, ok⟩ ⟨C, hC, hg, hok, la, ha⟩
  dsimp only at hg hok la ha ⊢
  subst hg hok
  by_cases hI : In 17 (szC c C)
  · rw [decide_eq_true hI, if_pos rfl]
    have one : ∀ t : XTerm, Tm c q.Variables t → (0 ≤ t.Variable ∧ t.Variable < ((genL c q C).length : Int)) ∧ (0 ≤ el (genL c q C) t.Variable ∧ el (genL c q C) t.Variable < ((el f.Actions t.Arrow).length : Int)) ∧
        el (el f.Actions t.Arrow) (el (genL c q C) t.Variable) = cl C (el c.To t.Arrow) (psn c q.Variables (el c.To t.Arrow) t.Variable t.Arrow) := by
      intro t ht
      have e := id_elt hq ht.1.1 ht.1.2
      have g := psn_rg hq e.1
      dsimp only at g
      have eg : el (genL c q C) t.Variable = cl C (el q.Variables t.Variable) (psn c q.Variables (el q.Variables t.Variable) t.Variable (el c.Identity (el q.Variables t.Variable))) := el_tab ht.1.1 ht.1.2
      have a := ha t.Arrow ht.2.1.1 ht.2.1.2
      have v := hq.vin _ ht.1.1 ht.1.2
      have es := acP_psn (a := t.Arrow) hS e.1.elt (by rw [e.2]; exact ht.2.2.symm)
      rw [e.2] at g
      rw [ht.2.2] at a es
      have ce := cl_lt hq hC.inv v.1 v.2 g.1 g.2
      refine ⟨⟨ht.1.1, by unfold genL; rw [tab_length]; have := ht.1.2; omega⟩, by rw [eg, a.1]; exact ce, ?_⟩
      rw [eg, a.2 _ g.1 g.2, es]
      dsimp only
      rw [← ht.2.2, (hq.cat.2.1 _ ht.2.1.1 ht.2.1.2).1]
    have L := one l hl
    have Rr := one r hr
    refine Ret.idx hl.2.1.1 (by have := hl.2.1.2; omega) (Ret.idx L.1.1 L.1.2 (Ret.idx L.2.1.1 L.2.1.2 ?_))
    refine Ret.idx hr.2.1.1 (by have := hr.2.1.2; omega) (Ret.idx Rr.1.1 Rr.1.2 (Ret.idx Rr.2.1.1 Rr.2.1.2 (Ret.some ⟨C, hC, ?_⟩)))
    rw [if_pos hI, L.2.2, Rr.2.2]
    rfl
  · rw [decide_eq_false hI, if_neg (by simp)]
    exact Ret.some ⟨C, hC, by rw [if_neg hI]⟩

/-! ### complete -/
theorem CFin.all (hq : Qok c q) {C : List (List Int)} (h : CFin c q C) {x u v : Int} (x0 : 0 ≤ x) (x1 : x < c.Objects) (u0 : 0 ≤ u) (u1 : u < szP c q.Variables x) (v0 : 0 ≤ v) (v1 : v < szP c q.Variables x) :
    cl C x u = cl C x v ↔ Cg c q (cdp c q.Variables x u) (cdp c q.Variables x v) := by
  have hS := hq.cat.1.shp
  have m40 := hS.m40
  have r := h.inv.row x x0 x1
  constructor
  · exact r.sd u v u0 (by rw [r.le]; exact u1) v0 (by rw [r.le]; exact v1)
  · intro e
    have hf := Eqv.into (f := fun e => cl C (el c.To (e % 64)) (psn c q.Variables (el c.To (e % 64)) (e / 64) (e % 64))) (fun a b hg => ?_) e
    · have at_ : ∀ p, 0 ≤ p → p < szP c q.Variables x → cl C (el c.To (cdp c q.Variables x p % 64)) (psn c q.Variables (el c.To (cdp c q.Variables x p % 64)) (cdp c q.Variables x p / 64) (cdp c q.Variables x p % 64)) = cl C x p := by
        intro p p0 p1
        obtain ⟨_, ee, et⟩ := pr_at p0 p1
        have h0 := ee.h0
        have h1 := ee.h1
        unfold cdp
        rw [cd_mod (by omega) (by omega), cd_div (by omega) (by omega), et, psn_of hS p0 p1]
      rw [at_ u u0 u1, at_ v v0 v1] at hf
      exact hf
    · obtain ⟨j, k, hj, hk, hfr, rfl, rfl⟩ := hg
      have t := hq.tm j hj.1 hj.2
      have hfr2 : el c.From k = el c.To (el q.Right j).Arrow := by rw [← t.2.2]; exact hfr
      have L := hS.yes _ k t.1.2.1.1 t.1.2.1.2 hk.1 hk.2 hfr.symm
      have R := hS.yes _ k t.2.1.2.1.1 t.2.1.2.1.2 hk.1 hk.2 hfr2.symm
      rw [cd_mod (by omega) (by omega), cd_div (by omega) (by omega), cd_mod (by omega) (by omega), cd_div (by omega) (by omega),
        hS.cto _ _ t.1.2.1.1 t.1.2.1.2 hk.1 hk.2 hfr.symm, hS.cto _ _ t.2.1.2.1.1 t.2.1.2.1.2 hk.1 hk.2 hfr2.symm,
        ← acP_psn hS t.1.elt hfr.symm, ← acP_psn hS t.2.1.elt hfr2.symm]
      have ti := hS.to_in _ t.1.2.1.1 t.1.2.1.2
      have g1 := psn_rg hq t.1
      have g2 := psn_rg hq t.2.1
      have b := (h.inv.row _ ti.1 ti.2).bs j hj.1 hj.2 rfl
      rw [← t.2.2] at g2
      rw [← hfr] at g1 g2 b
      exact h.clo k hk.1 hk.2 _ _ g1.1 g1.2 g2.1 g2.2 b
end Go.Gx
