/- Laid together: part 1. -/
import Derived.Test.YtiikkfdehbcfaaaGxEP0
import Derived.Test.YtiikkfdehbcfaaaGxEM1
import Derived.Test.YtiikkfdehbcfaaaGxEP2
/- Plain laws: the first isomorphism of a hom set. -/
namespace Go.Gx
open Classical
set_option maxHeartbeats 1000000

section
variable {c : XCategory}
/-- An inverse leads back, and is an isomorphism too. -/
theorem invA_ar {f x y : Int} (a : Ar c f x y) (h : 0 ≤ invA c f) : Ar c (invA c f) y x ∧ InvP c f (invA c f) := by
  obtain rfl := a.s
  obtain rfl := a.t
  unfold invA at *
  cases e : (homL c (el c.To f) (el c.From f)).find? fun g => decide (InvP c f g) with
  | none => rw [e] at h; exact absurd h (by decide)
  | some g =>
    have m := homL_mem.1 (List.mem_of_find?_eq_some e)
    exact ⟨⟨m.1, m.2.1, m.2.2.1, m.2.2.2⟩, of_decide_eq_true (List.find?_some (p := fun g => decide (InvP c f g)) e)⟩
theorem invA_of {f g x y : Int} (a : Ar c f x y) (b : Ar c g y x) (h : InvP c f g) : 0 ≤ invA c f := by
  unfold invA
  rw [a.s, a.t]
  cases e : (homL c y x).find? fun g => decide (InvP c f g) with
  | none =>
    rw [List.find?_eq_none] at e
    exact absurd (decide_eq_true h) (e g (homL_mem.2 ⟨b.p, b.q, b.s, b.t⟩))
  | some k => exact (homL_mem.1 (List.mem_of_find?_eq_some e)).1
end
end Go.Gx

/- The law of InverseFunctor. -/
namespace Go.Gx
open Classical
set_option maxHeartbeats 1000000

end Go.Gx

/- Plain laws: places in lists; full parts of a category. -/
namespace Go.Gx
open Classical
set_option maxHeartbeats 1000000

/-! ### places -/
theorem indexL_at {l : List Int} (hl : Small l) {i : Int} (i0 : 0 ≤ i) (i1 : i < (l.length : Int)) (hn : ∀ j, 0 ≤ j → j < i → el l j ≠ el l i) : indexL l (el l i) = i := by
  have h : Ret (M.spec_l01Index l (el l i)) fun r => r = i := by
    unfold M.spec_l01Index
    simp only [beq_iff_eq]
    refine Ret.all (l.length : Int) (fun j => el l j ≠ el l i) (by omega) (by omega) ?_ ?_
    · intro j next j0 j1 hp hn1
      rw [if_pos (decide_eq_true j1)]
      refine Ret.idx j0 j1 (Ret.ite (fun h => Ret.some ?_) (fun h => hn1 h))
      rcases Int.lt_trichotomy j i with h1 | h1 | h1
      · exact absurd h (hn j j0 h1)
      · exact h1
      · exact absurd rfl (hp i i0 h1)
    · intro next hp
      exact absurd rfl (hp i i0 i1)
  rw [l01Index_eq hl] at h
  obtain ⟨r, e, rfl⟩ := h
  exact Option.some.inj e
theorem indexL_no {l : List Int} (hl : Small l) {v : Int} (hv : v ∉ l) : indexL l v = -1 := by
  have h : Ret (M.spec_l01Index l v) fun r => r = -1 := by
    unfold M.spec_l01Index
    simp only [beq_iff_eq]
    refine Ret.all (l.length : Int) (fun _ => True) (by omega) (by omega) ?_ ?_
    · intro j next j0 j1 hp hn1
      rw [if_pos (decide_eq_true j1)]
      refine Ret.idx j0 j1 (Ret.ite (fun h => absurd (h ▸ el_mem j0 j1) hv) (fun h => hn1 trivial))
    · intro next hp
      rw [if_neg (by simp)]
      exact Ret.some rfl
  rw [l01Index_eq hl] at h
  obtain ⟨r, e, rfl⟩ := h
  exact Option.some.inj e
theorem nodup_el {l : List Int} (h : l.Nodup) {i j : Int} (i0 : 0 ≤ i) (i1 : i < (l.length : Int)) (j0 : 0 ≤ j) (j1 : j < (l.length : Int)) (e : el l i = el l j) : i = j := by
  have hp := List.pairwise_iff_getElem.1 (show List.Pairwise (fun a b : Int => a ≠ b) l from h)
  have ei : el l i = l[i.toNat]'(by omega) := by
    have := el_get (l := l) (k := i.toNat) (by omega)
    rwa [show ((i.toNat : Nat) : Int) = i by omega] at this
  have ej : el l j = l[j.toNat]'(by omega) := by
    have := el_get (l := l) (k := j.toNat) (by omega)
    rwa [show ((j.toNat : Nat) : Int) = j by omega] at this
  rcases Int.lt_trichotomy i j with h1 | h1 | h1
  · exact absurd (by rw [← ei, ← ej]; exact e) (hp i.toNat j.toNat (by omega) (by omega) (by omega))
  · exact h1
  · exact absurd (by rw [← ei, ← ej]; exact e.symm) (hp j.toNat i.toNat (by omega) (by omega) (by omega))
theorem indexL_el {l : List Int} (hl : Small l) (h : l.Nodup) {i : Int} (i0 : 0 ≤ i) (i1 : i < (l.length : Int)) : indexL l (el l i) = i :=
  indexL_at hl i0 i1 fun j j0 j1 e => by have := nodup_el h j0 (by omega) i0 i1 e; omega
theorem indexL_in {l : List Int} (hl : Small l) (h : l.Nodup) {v : Int} (hv : v ∈ l) : (0 ≤ indexL l v ∧ indexL l v < (l.length : Int)) ∧ el l (indexL l v) = v := by
  obtain ⟨i, i0, i1, rfl⟩ := mem_el hv
  rw [indexL_el hl h i0 i1]
  exact ⟨⟨i0, i1⟩, rfl⟩

theorem fil_more {i : Int} (p : Int → Bool) (h : 0 ≤ i) : ∀ k : Nat, ∃ t, fil (i + (k : Int)) p = fil i p ++ t
  | 0 => ⟨[], by simp⟩
  | k + 1 => by
    obtain ⟨t, e⟩ := fil_more p h k
    rw [show i + ((k + 1 : Nat) : Int) = (i + (k : Int)) + 1 by omega, fil_succ p (by omega), e]
    exact ⟨t ++ _, by rw [List.append_assoc]⟩
/-- Where a number that passes lies. -/
theorem fil_place {n i : Int} (p : Int → Bool) (i0 : 0 ≤ i) (i1 : i < n) (hp : p i = true) (hn : n ≤ 1048576) : indexL (fil n p) i = ((fil i p).length : Int) := by
  obtain ⟨t, e⟩ := fil_more p (show 0 ≤ i + 1 by omega) (n - (i + 1)).toNat
  rw [show i + 1 + (((n - (i + 1)).toNat : Nat) : Int) = n by omega, fil_succ p i0, hp] at e
  simp only [if_true] at e
  have hl := fil_length_le n p
  have hlen : (fil i p).length < (fil n p).length := by rw [e]; simp only [List.length_append, List.length_cons]; omega
  have he : el (fil n p) ((fil i p).length : Int) = i := by
    rw [el_get hlen]
    simp only [e, List.append_assoc]
    rw [List.getElem_append_right (Nat.le_refl _)]
    simp
  have := indexL_el (l := fil n p) (by unfold Small; omega) (fil_nodup n p) (i := ((fil i p).length : Int)) (by omega) (by omega)
  rwa [he] at this

/-! ### full parts -/
noncomputable def fullL (c : XCategory) (o : List Int) : List Int := fil (c.From.length : Int) fun f => decide (el c.From f ∈ o) && decide (el c.To f ∈ o)
theorem fullL_mem {c : XCategory} {o : List Int} {f : Int} : f ∈ fullL c o ↔ 0 ≤ f ∧ f < (c.From.length : Int) ∧ el c.From f ∈ o ∧ el c.To f ∈ o := by
  unfold fullL
  rw [fil_mem, Bool.and_eq_true, decide_eq_true_iff, decide_eq_true_iff]
/-- A choice of objects: those that pass. -/
structure Pick (c : XCategory) (o : List Int) : Prop where
  s : Shp c
  e : o = fil c.Objects fun x => decide (x ∈ o)
theorem Pick.nodup {c : XCategory} {o : List Int} (h : Pick c o) : o.Nodup := by rw [h.e]; exact fil_nodup _ _
theorem Pick.len {c : XCategory} {o : List Int} (h : Pick c o) : (o.length : Int) ≤ c.Objects := by
  have h1 := fil_length_le c.Objects fun x => decide (x ∈ o)
  have n0 := h.s.n0
  have := congrArg List.length h.e
  omega
theorem Pick.id {c : XCategory} {o : List Int} (h : Pick c o) {x : Int} (x0 : 0 ≤ x) (x1 : x < c.Objects) : el c.Identity x ∈ fullL c o ↔ x ∈ o := by
  have i := h.s.id_in x x0 x1
  rw [fullL_mem, h.s.id_from x x0 x1, h.s.id_to x x0 x1]
  exact ⟨fun y => y.2.2.1, fun y => ⟨i.1, i.2, y, y⟩⟩
theorem el_map {α β : Type} [Inhabited α] [Inhabited β] {l : List α} {F : α → β} {i : Int} (i0 : 0 ≤ i) (i1 : i < (l.length : Int)) : el (l.map F) i = F (el l i) := by
  have e1 : idx (l.map F) i = some (el (l.map F) i) := idx_el i0 (by rw [List.length_map]; exact i1)
  have e2 : idx l i = some (el l i) := idx_el i0 i1
  have h1 := (idx_some e1).2.2
  have h2 := (idx_some e2).2.2
  rw [List.getElem?_map, h2] at h1
  exact (Option.some.inj h1).symm

theorem Pick.comp {c : XCategory} {o : List Int} (h : Pick c o) {f g : Int} (hf : f ∈ fullL c o) (hg : g ∈ fullL c o) (e : el c.To f = el c.From g) : cmp c f g ∈ fullL c o := by
  have mf := fullL_mem.1 hf
  have mg := fullL_mem.1 hg
  have y := h.s.yes f g mf.1 mf.2.1 mg.1 mg.2.1 e
  rw [fullL_mem, h.s.cfrom f g mf.1 mf.2.1 mg.1 mg.2.1 e, h.s.cto f g mf.1 mf.2.1 mg.1 mg.2.1 e]
  exact ⟨y.1, y.2, mf.2.2.1, mg.2.2.2⟩

end Go.Gx

/- Plain laws: labels and their classes; elements that are joined. -/
namespace Go.Gx
open Classical
set_option maxHeartbeats 1000000

/-! ### the least equivalence -/
inductive Eqv (P : Int → Int → Prop) : Int → Int → Prop
  | of {x y : Int} : P x y → Eqv P x y
  | refl (x : Int) : Eqv P x x
  | symm {x y : Int} : Eqv P x y → Eqv P y x
  | trans {x y z : Int} : Eqv P x y → Eqv P y z → Eqv P x z

theorem Eqv.mono {P Q : Int → Int → Prop} (h : ∀ x y, P x y → Eqv Q x y) {x y : Int} (e : Eqv P x y) : Eqv Q x y := by
  induction e with
  | of p => exact h _ _ p
  | refl x => exact .refl x
  | symm _ ih => exact .symm ih
  | trans _ _ ih1 ih2 => exact .trans ih1 ih2
theorem Eqv.congr {P Q : Int → Int → Prop} (h : ∀ x y, P x y → Eqv Q x y) (h' : ∀ x y, Q x y → Eqv P x y) {x y : Int} : Eqv P x y ↔ Eqv Q x y := ⟨Eqv.mono h, Eqv.mono h'⟩
/-- An equivalence that holds where P does. -/
theorem Eqv.into {P : Int → Int → Prop} {f : Int → Int} (h : ∀ x y, P x y → f x = f y) {x y : Int} (e : Eqv P x y) : f x = f y := by
  induction e with
  | of p => exact h _ _ p
  | refl x => rfl
  | symm _ ih => exact ih.symm
  | trans _ _ ih1 ih2 => exact ih1.trans ih2
theorem Eqv.add {P : Int → Int → Prop} {p q i j : Int} : Eqv (fun x y => P x y ∨ (x = p ∧ y = q)) i j ↔ Eqv P i j ∨ (Eqv P i p ∧ Eqv P q j) ∨ (Eqv P i q ∧ Eqv P p j) := by
  constructor
  · intro e
    induction e with
    | of h =>
      rcases h with h | ⟨rfl, rfl⟩
      · exact .inl (.of h)
      · exact .inr (.inl ⟨.refl _, .refl _⟩)
    | refl x => exact .inl (.refl x)
    | symm _ ih =>
      rcases ih with h | ⟨h, k⟩ | ⟨h, k⟩
      · exact .inl h.symm
      · exact .inr (.inr ⟨k.symm, h.symm⟩)
      · exact .inr (.inl ⟨k.symm, h.symm⟩)
    | trans _ _ ih1 ih2 =>
      rcases ih1 with h | ⟨h, k⟩ | ⟨h, k⟩
      · rcases ih2 with h' | ⟨h', k'⟩ | ⟨h', k'⟩
        · exact .inl (h.trans h')
        · exact .inr (.inl ⟨h.trans h', k'⟩)
        · exact .inr (.inr ⟨h.trans h', k'⟩)
      · rcases ih2 with h' | ⟨h', k'⟩ | ⟨h', k'⟩
        · exact .inr (.inl ⟨h, k.trans h'⟩)
        · exact .inr (.inl ⟨h, k'⟩)
        · exact .inl (h.trans k')
      · rcases ih2 with h' | ⟨h', k'⟩ | ⟨h', k'⟩
        · exact .inr (.inr ⟨h, k.trans h'⟩)
        · exact .inl (h.trans k')
        · exact .inr (.inr ⟨h, k'⟩)
  · have up : ∀ {a b}, Eqv P a b → Eqv (fun x y => P x y ∨ (x = p ∧ y = q)) a b := fun h => Eqv.mono (fun x y z => .of (.inl z)) h
    have pq : Eqv (fun x y => P x y ∨ (x = p ∧ y = q)) p q := .of (.inr ⟨rfl, rfl⟩)
    rintro (h | ⟨h, k⟩ | ⟨h, k⟩)
    · exact up h
    · exact (up h).trans (pq.trans (up k))
    · exact (up h).trans (pq.symm.trans (up k))

/-- f tells R apart on 0 .. n - 1. -/
def Ker (n : Int) (f : Int → Int) (R : Int → Int → Prop) : Prop := ∀ i j, 0 ≤ i → i < n → 0 ≤ j → j < n → (f i = f j ↔ R i j)

theorem Ker.congr {n : Int} {f : Int → Int} {R S : Int → Int → Prop} (h : Ker n f R) (e : ∀ i j, R i j ↔ S i j) : Ker n f S := fun i j i0 i1 j0 j1 => (h i j i0 i1 j0 j1).trans (e i j)
theorem Ker.none {n : Int} {f : Int → Int} (h : ∀ i j, 0 ≤ i → i < n → 0 ≤ j → j < n → f i = f j → i = j) : Ker n f (Eqv fun _ _ => False) := by
  intro i j i0 i1 j0 j1
  constructor
  · intro e; rw [h i j i0 i1 j0 j1 e]; exact .refl _
  · intro e; exact congrArg f (Eqv.into (f := fun x => x) (fun _ _ h => h.elim) e)
/-- Two labels made one. -/
theorem Ker.merge {n : Int} {f : Int → Int} {P : Int → Int → Prop} (h : Ker n f (Eqv P)) {p q : Int} (p0 : 0 ≤ p) (p1 : p < n) (q0 : 0 ≤ q) (q1 : q < n) {a b : Int} (e : (a = f p ∧ b = f q) ∨ (a = f q ∧ b = f p)) :
    Ker n (fun i => if f i = b then a else f i) (Eqv fun x y => P x y ∨ (x = p ∧ y = q)) := by
  intro i j i0 i1 j0 j1
  rw [Eqv.add, ← h i j i0 i1 j0 j1, ← h i p i0 i1 p0 p1, ← h q j q0 q1 j0 j1, ← h i q i0 i1 q0 q1, ← h p j p0 p1 j0 j1]
  rcases e with ⟨rfl, rfl⟩ | ⟨rfl, rfl⟩ <;> dsimp only <;> split <;> split <;> grind

/-! ### labels numbered in the order in which they come -/
/-- Is i the first of its label. -/
noncomputable def ldr (l : List Int) (i : Int) : Bool := indexL l (el l i) == i
noncomputable def cnt (l : List Int) (i : Int) : Int := ((fil i (ldr l)).length : Int)
noncomputable def nrm (l : List Int) : List Int := tab (l.length : Int) fun i => cnt l (indexL l (el l i))

theorem least {p : Int → Prop} : ∀ (k : Nat), p (k : Int) → ∃ i : Int, 0 ≤ i ∧ i ≤ (k : Int) ∧ p i ∧ ∀ j, 0 ≤ j → j < i → ¬ p j := by
  intro k
  induction k using Nat.strongRecOn with
  | ind k ih =>
    intro hk
    by_cases h : ∃ j : Nat, j < k ∧ p (j : Int)
    · obtain ⟨j, hj, pj⟩ := h
      obtain ⟨i, i0, i1, pi, hi⟩ := ih j hj pj
      exact ⟨i, i0, by omega, pi, hi⟩
    · refine ⟨(k : Int), by omega, by omega, hk, fun j j0 j1 pj => h ⟨j.toNat, by omega, ?_⟩⟩
      rwa [show ((j.toNat : Nat) : Int) = j by omega]

section
variable {l : List Int}
theorem first_spec (sl : Small l) {i : Int} (i0 : 0 ≤ i) (i1 : i < (l.length : Int)) :
    (0 ≤ indexL l (el l i) ∧ indexL l (el l i) ≤ i) ∧ el l (indexL l (el l i)) = el l i ∧ ∀ j, 0 ≤ j → j < indexL l (el l i) → el l j ≠ el l i := by
  obtain ⟨k, k0, k1, hk, hn⟩ := least (p := fun k => el l k = el l i) i.toNat (by rw [show ((i.toNat : Nat) : Int) = i by omega])
  have e : indexL l (el l i) = k := by
    rw [← hk]
    exact indexL_at sl k0 (by omega) fun j j0 j1 x => hn j j0 j1 (x.trans hk)
  rw [e]
  exact ⟨⟨k0, by omega⟩, hk, hn⟩
theorem ldr_iff (sl : Small l) {i : Int} (i0 : 0 ≤ i) (i1 : i < (l.length : Int)) : ldr l i = true ↔ ∀ j, 0 ≤ j → j < i → el l j ≠ el l i := by
  have f := first_spec sl i0 i1
  unfold ldr
  rw [beq_iff_eq]
  constructor
  · intro e j j0 j1
    exact f.2.2 j j0 (by omega)
  · intro h
    exact indexL_at sl i0 i1 h
theorem ldr_first (sl : Small l) {i : Int} (i0 : 0 ≤ i) (i1 : i < (l.length : Int)) : ldr l (indexL l (el l i)) = true := by
  have f := first_spec sl i0 i1
  unfold ldr
  rw [f.2.1, beq_iff_eq]
theorem ldr_inj (_ : Small l) {i j : Int} (_ : 0 ≤ i) (_ : i < (l.length : Int)) (_ : 0 ≤ j) (_ : j < (l.length : Int)) (hi : ldr l i = true) (hj : ldr l j = true) (e : el l i = el l j) : i = j := by
  unfold ldr at hi hj
  rw [beq_iff_eq] at hi hj
  rw [← hi, ← hj, e]

theorem cnt_succ {i : Int} (i0 : 0 ≤ i) : cnt l (i + 1) = cnt l i + if ldr l i = true then 1 else 0 := by
  unfold cnt
  rw [fil_succ _ i0]
  split <;> simp
theorem cnt_le {i : Int} (i0 : 0 ≤ i) : 0 ≤ cnt l i ∧ cnt l i ≤ i := by
  have := fil_length_le i (ldr l)
  unfold cnt; omega
theorem cnt_mono {i : Int} (i0 : 0 ≤ i) : ∀ k : Nat, cnt l i ≤ cnt l (i + (k : Int))
  | 0 => by simp
  | k + 1 => by
    have := cnt_mono i0 k
    rw [show i + ((k + 1 : Nat) : Int) = (i + (k : Int)) + 1 by omega, cnt_succ (by omega)]
    split <;> omega
theorem cnt_lt {i j : Int} (i0 : 0 ≤ i) (hij : i < j) (h : ldr l i = true) : cnt l i < cnt l j := by
  have := cnt_mono (l := l) (i := i + 1) (by omega) (j - (i + 1)).toNat
  rw [show i + 1 + (((j - (i + 1)).toNat : Nat) : Int) = j by omega, cnt_succ i0, if_pos h] at this
  omega
theorem cnt_inj {i j : Int} (i0 : 0 ≤ i) (j0 : 0 ≤ j) (hi : ldr l i = true) (hj : ldr l j = true) (e : cnt l i = cnt l j) : i = j := by
  rcases Int.lt_trichotomy i j with h | h | h
  · have := cnt_lt i0 h hi; omega
  · exact h
  · have := cnt_lt j0 h hj; omega

theorem nrm_len : (nrm l).length = l.length := by unfold nrm; rw [tab_length]; omega
theorem nrm_small (sl : Small l) : Small (nrm l) := by unfold Small; rw [nrm_len]; exact sl
theorem nrm_el {i : Int} (i0 : 0 ≤ i) (i1 : i < (l.length : Int)) : el (nrm l) i = cnt l (indexL l (el l i)) := by unfold nrm; rw [el_tab i0 i1]
theorem nrm_ker (sl : Small l) {i j : Int} (i0 : 0 ≤ i) (i1 : i < (l.length : Int)) (j0 : 0 ≤ j) (j1 : j < (l.length : Int)) : el (nrm l) i = el (nrm l) j ↔ el l i = el l j := by
  rw [nrm_el i0 i1, nrm_el j0 j1]
  have fi := first_spec sl i0 i1
  have fj := first_spec sl j0 j1
  constructor
  · intro e
    have := cnt_inj fi.1.1 fj.1.1 (ldr_first sl i0 i1) (ldr_first sl j0 j1) e
    rw [← fi.2.1, this, fj.2.1]
  · intro e; rw [e]
/-- Labels that tell the same apart are numbered in the same way. -/
theorem nrm_congr {m : List Int} (sl : Small l) (hl : l.length = m.length) (h : ∀ i j, 0 ≤ i → i < (l.length : Int) → 0 ≤ j → j < (l.length : Int) → (el l i = el l j ↔ el m i = el m j)) : nrm l = nrm m := by
  have sm : Small m := by unfold Small at *; omega
  have hf : ∀ i, 0 ≤ i → i < (l.length : Int) → indexL l (el l i) = indexL m (el m i) := by
    intro i i0 i1
    have a := first_spec sl i0 i1
    have b := first_spec sm i0 (by omega)
    rcases Int.lt_trichotomy (indexL l (el l i)) (indexL m (el m i)) with q | q | q
    · exact absurd ((h _ _ a.1.1 (by omega) i0 i1).1 a.2.1) (b.2.2 _ a.1.1 q)
    · exact q
    · exact absurd ((h _ _ b.1.1 (by omega) i0 i1).2 b.2.1) (a.2.2 _ b.1.1 q)
  have hd : ∀ i, 0 ≤ i → i < (l.length : Int) → ldr l i = ldr m i := by
    intro i i0 i1
    unfold ldr
    rw [hf i i0 i1]
  unfold nrm
  rw [← hl]
  apply tab_congr
  intro i i0 i1
  rw [hf i i0 i1]
  have b := first_spec sm i0 (by omega)
  unfold cnt
  rw [fil_congr fun j j0 j1 => hd j j0 (by omega)]
theorem fil_el {n i : Int} (p : Int → Bool) (i0 : 0 ≤ i) (i1 : i < n) (hp : p i = true) (hn : n ≤ 1048576) : el (fil n p) ((fil i p).length : Int) = i := by
  rw [← fil_place p i0 i1 hp hn]
  have := fil_length_le n p
  exact (indexL_in (by unfold Small; omega) (fil_nodup n p) (fil_mem.2 ⟨i0, i1, hp⟩)).2
/-- What has been seen before i: the labels of the first ones. -/
noncomputable def seenL (l : List Int) (i : Int) : List Int := (fil i (ldr l)).map (el l)
theorem seenL_len (i : Int) : ((seenL l i).length : Int) = cnt l i := by unfold seenL cnt; rw [List.length_map]
theorem seen_at (sl : Small l) {i k : Int} (i1 : i ≤ (l.length : Int)) (k0 : 0 ≤ k) (k1 : k < i) (hk : ldr l k = true) : indexL (seenL l i) (el l k) = cnt l k := by
  have hc := cnt_lt (j := i) k0 k1 hk
  have c0 := cnt_le (l := l) k0
  have ci := cnt_le (l := l) (i := i) (by omega)
  have hl := seenL_len (l := l) i
  unfold Small at sl
  have lf : ((fil i (ldr l)).length : Int) = cnt l i := rfl
  have e1 : el (seenL l i) (cnt l k) = el l k := by
    unfold seenL
    rw [el_map c0.1 (by omega)]
    unfold cnt
    rw [fil_el _ k0 k1 hk (by omega)]
  rw [← e1]
  refine indexL_at (by unfold Small; omega) c0.1 (by omega) fun j j0 j1 => ?_
  rw [e1]
  unfold seenL
  rw [el_map j0 (by omega)]
  have hm : el (fil i (ldr l)) j ∈ fil i (ldr l) := el_mem j0 (by omega)
  have hm' := fil_mem.1 hm
  intro e
  have := ldr_inj (by unfold Small; omega) hm'.1 (by omega) k0 (by omega) hm'.2.2 hk e
  have hi := indexL_el (l := fil i (ldr l)) (by unfold Small; omega) (fil_nodup _ _) j0 (by omega)
  rw [this, fil_place _ k0 k1 hk (by omega)] at hi
  have : cnt l k = j := hi
  omega
theorem seen_no (sl : Small l) {i : Int} (i0 : 0 ≤ i) (i1 : i < (l.length : Int)) (hi : ldr l i = true) : indexL (seenL l i) (el l i) = -1 := by
  have hl := seenL_len (l := l) i
  have ci := cnt_le (l := l) i0
  unfold Small at sl
  refine indexL_no (by unfold Small; omega) ?_
  unfold seenL
  rw [List.mem_map]
  rintro ⟨k, hk, e⟩
  have hk := fil_mem.1 hk
  exact (ldr_iff (by unfold Small; omega) i0 i1).1 hi k hk.1 hk.2.1 e
theorem seen_next {i : Int} (i0 : 0 ≤ i) : seenL l (i + 1) = seenL l i ++ if ldr l i = true then [el l i] else [] := by
  unfold seenL
  rw [fil_succ _ i0, List.map_append]
  split <;> simp
end

/-! ### a forest whose roots are the least of their classes -/
structure UF (j : List Int) (ρ : Int → Int) : Prop where
  up : ∀ x, 0 ≤ x → x < (j.length : Int) → 0 ≤ el j x ∧ el j x ≤ x
  st : ∀ x, 0 ≤ x → x < (j.length : Int) → ρ (el j x) = ρ x
  fx : ∀ x, 0 ≤ x → x < (j.length : Int) → el j x = x → ρ x = x
  lo : ∀ x, 0 ≤ x → x < (j.length : Int) → 0 ≤ ρ x ∧ ρ x ≤ x
  ix : ∀ x, 0 ≤ x → x < (j.length : Int) → ρ (ρ x) = ρ x

theorem el_set {α : Type} [Inhabited α] {l : List α} {i k : Int} {v : α} (i0 : 0 ≤ i) (i1 : i < (l.length : Int)) (k0 : 0 ≤ k) : el (l.set i.toNat v) k = if k = i then v else el l k := by
  unfold el
  rw [List.getD_eq_getElem?_getD, List.getD_eq_getElem?_getD, List.getElem?_set]
  by_cases h : k = i
  · subst h; rw [if_pos rfl, if_pos (by omega), if_pos rfl]; rfl
  · rw [if_neg (by omega), if_neg h]

section
variable {j : List Int} {ρ : Int → Int}
theorem UF.start (n : Int) : UF (tab n fun x => x) (fun x => x) := by
  refine ⟨?_, ?_, ?_, ?_, ?_⟩ <;> intro x x0 x1 <;> (try rw [tab_length] at x1) <;> (try rw [el_tab x0 (by omega)]) <;> try omega
end
end Go.Gx

/- Plain laws: labels numbered, elements joined: what the program does. -/
namespace Go.Gx
open Classical
set_option maxHeartbeats 1000000

theorem l01Classes_eq {l : List Int} (sl : Small l) : M.spec_l01Classes l = some (nrm l) := by
  apply Ret.eq
  unfold M.spec_l01Classes
  refine Ret.loop (l.length : Int) (fun i s => s = (tab i (fun i => cnt l (indexL l (el l i))), seenL l i, i)) (by omega) (by unfold Small at sl; omega) rfl ?_ ?_
  · rintro i s next i0 i1 rfl hn
    unfold Small at sl
    have hs := seenL_len (l := l) i
    have hc := cnt_le (l := l) i0
    have ht : (((tab i fun i => cnt l (indexL l (el l i))).length : Nat) : Int) = i := by rw [tab_length]; omega
    dsimp only
    rw [if_pos (decide_eq_true i1)]
    refine Ret.idx i0 i1 (Ret.call (l01Index_eq (by unfold Small; omega) _) ?_)
    have f := first_spec (l := l) (by unfold Small; omega) i0 i1
    by_cases hl : ldr l i = true
    · rw [seen_no (by unfold Small; omega) i0 i1 hl, if_pos (by decide)]
      have hf : indexL l (el l i) = i := by unfold ldr at hl; exact beq_iff_eq.1 hl
      refine Ret.chk (by unfold lim; simp only [List.length_cons, List.length_nil]; omega) (Ret.chk (by unfold lim; simp only [List.length_cons, List.length_nil]; omega) (hn _ ?_))
      rw [tab_succ _ i0, seen_next i0, if_pos hl, wrap_in (by omega) (by omega), hs, hf]
    · have hd := ldr_first (l := l) (by unfold Small; omega) i0 i1
      have hne : indexL l (el l i) ≠ i := fun e => hl (by unfold ldr; exact beq_iff_eq.2 e)
      have hs2 := seen_at (l := l) (i := i) (k := indexL l (el l i)) (by unfold Small; omega) (by omega) f.1.1 (by omega) hd
      rw [f.2.1] at hs2
      rw [hs2]
      have hc2 := cnt_le (l := l) f.1.1
      rw [if_neg (by simp; omega)]
      refine Ret.chk (by unfold lim; simp only [List.length_cons, List.length_nil]; omega) (hn _ ?_)
      rw [tab_succ _ i0, seen_next i0, if_neg hl, List.append_nil, wrap_in (by omega) (by omega)]
  · rintro s next rfl
    dsimp only
    rw [if_neg (by simp)]
    exact Ret.some rfl

/-! ### maps of numbers -/
theorem mget_mput {k k' v : Int} : ∀ m : List (Int × Int), mget k' (mput k v m) = if k' = k then some v else mget k' m
  | [] => by simp [mput, mget]
  | e :: m => by
    have ih := mget_mput (k := k) (k' := k') (v := v) m
    unfold mput
    by_cases h : k = e.1
    · rw [if_pos h]
      unfold mget
      by_cases h' : k' = k
      · simp [h']
      · rw [if_neg h', if_neg h', if_neg (by rw [← h]; exact h')]
    · rw [if_neg h]
      unfold mget
      by_cases h' : k' = e.1
      · rw [if_pos h', if_pos h', if_neg (by rw [h']; exact fun x => h x.symm)]
      · rw [if_neg h', if_neg h', ih]
/-- What the numbering remembers before i. -/
structure NumM (l : List Int) (i : Int) (m : List (Int × Int)) : Prop where
  some : ∀ k, 0 ≤ k → k < i → ldr l k = true → mget (el l k) m = some (cnt l k)
  none : ∀ v, (∀ k, 0 ≤ k → k < i → el l k ≠ v) → mget v m = none
  len : (m.length : Int) = cnt l i

/-! ### joined labels -/
/-- Pairs in range. -/
def PairsIn (n : Int) (p : List (List Int)) : Prop := ∀ k, 0 ≤ k → k < (p.length : Int) → 2 ≤ ((el p k).length : Int) ∧ (0 ≤ el (el p k) 0 ∧ el (el p k) 0 < n) ∧ (0 ≤ el (el p k) 1 ∧ el (el p k) 1 < n)
/-- x and y are one of the first i pairs. -/
def PairAt (p : List (List Int)) (i : Int) (x y : Int) : Prop := ∃ k, 0 ≤ k ∧ k < i ∧ x = el (el p k) 0 ∧ y = el (el p k) 1
theorem pairAt_zero (p : List (List Int)) (x y : Int) : PairAt p 0 x y ↔ False := by
  constructor
  · rintro ⟨k, k0, k1, _⟩; omega
  · exact False.elim
theorem pairAt_succ {p : List (List Int)} {i : Int} (i0 : 0 ≤ i) (x y : Int) : PairAt p (i + 1) x y ↔ PairAt p i x y ∨ (x = el (el p i) 0 ∧ y = el (el p i) 1) := by
  constructor
  · rintro ⟨k, k0, k1, h⟩
    by_cases e : k = i
    · subst e; exact .inr h
    · exact .inl ⟨k, k0, by omega, h⟩
  · rintro (⟨k, k0, k1, h⟩ | h)
    · exact ⟨k, k0, by omega, h⟩
    · exact ⟨i, i0, by omega, h⟩

/-- The labels behind all pairs. -/
theorem l01Join_r {n : Int} {p : List (List Int)} (n0 : 0 ≤ n) (n1 : n ≤ 1048576) (sp : (p.length : Int) ≤ 1073741824) (hp : PairsIn n p) :
    Ret (M.spec_l01Join n p) fun r => ∃ l, r = nrm l ∧ (l.length : Int) = n ∧ Ker n (el l) (Eqv (PairAt p (p.length : Int))) := by
  unfold M.spec_l01Join
  refine Ret.acc n (fun i s => s = tab i fun x => x) n0 (by omega) rfl ?_ ?_
  · rintro i s next i0 i1 rfl hn
    have ht : (((tab i fun x => x).length : Nat) : Int) = i := by rw [tab_length]; omega
    dsimp only
    rw [if_pos (decide_eq_true i1)]
    exact Ret.chk (by unfold lim; simp only [List.length_cons, List.length_nil]; omega) (hn _ (tab_succ (fun x => x) i0).symm)
  rintro s next rfl
  dsimp only
  rw [if_neg (by simp)]
  refine Ret.acc (p.length : Int) (fun i s => (s.length : Int) = n ∧ Ker n (el s) (Eqv (PairAt p i))) (by omega) (by omega) ⟨by rw [tab_length]; omega, ?_⟩ ?_ ?_
  · refine (Ker.none fun i j i0 i1 j0 j1 e => ?_).congr fun i j => Eqv.congr (fun x y h => h.elim) (fun x y h => ((pairAt_zero p x y).1 h).elim)
    rwa [el_tab i0 i1, el_tab j0 j1] at e
  · rintro i s next i0 i1 ⟨hl, hk⟩ hn
    obtain ⟨h2, ⟨a0, a1⟩, ⟨b0, b1⟩⟩ := hp i i0 i1
    dsimp only
    rw [if_pos (decide_eq_true i1)]
    refine Ret.idx i0 i1 (Ret.idx (by omega) (by omega) (Ret.idx a0 (by omega) (Ret.idx (by omega) (by omega) (Ret.idx b0 (by omega) ?_))))
    have w : IntKind.i64.wrap (i + 1) = i + 1 := wrap_in (by omega) (by omega)
    by_cases hne : el s (el (el p i) 0) = el s (el (el p i) 1)
    · -- the labels are one already
      have hk' : Ker n (el s) (Eqv (PairAt p (i + 1))) := by
        refine hk.congr fun x y => Eqv.congr (fun x y h => .of ((pairAt_succ i0 x y).2 (.inl h))) (fun x y h => ?_)
        rcases (pairAt_succ i0 x y).1 h with h | ⟨rfl, rfl⟩
        · exact .of h
        · exact (hk _ _ a0 a1 b0 b1).1 hne
      refine Ret.loop 0 (fun _ t => t = (s, 0)) (by omega) (by omega) rfl (fun _ _ _ _ h => by omega) ?_
      rintro t nx rfl
      dsimp only
      by_cases h0 : (0 : Int) < (s.length : Int)
      · rw [if_pos (decide_eq_true h0), if_neg (by simp [hne])]
        exact hn s ⟨hl, hk'⟩
      · rw [if_neg (by simp; omega)]
        exact hn s ⟨hl, hk'⟩
    · refine Ret.acc (s.length : Int) (fun j t => t = tab (s.length : Int) fun x => if x < j ∧ el s x = el s (el (el p i) 1) then el s (el (el p i) 0) else el s x) (by omega) (by omega) ?_ ?_ ?_
      · rw [← tab_el s]
        rw [tab_el s]
        conv => lhs; rw [← tab_el s]
        apply tab_congr
        intro x x0 x1
        rw [if_neg (by omega)]
      · rintro j t nx j0 j1 rfl hnx
        have hL : (((tab (s.length : Int) fun x => if x < j ∧ el s x = el s (el (el p i) 1) then el s (el (el p i) 0) else el s x).length : Nat) : Int) = (s.length : Int) := by rw [tab_length]; omega
        dsimp only
        rw [hL, if_pos (decide_eq_true j1), if_pos (by simpa using hne)]
        refine Ret.idx j0 (by omega) ?_
        have eT : el (tab (s.length : Int) fun x => if x < j ∧ el s x = el s (el (el p i) 1) then el s (el (el p i) 0) else el s x) j = el s j := by
          rw [el_tab j0 j1]
          exact if_neg (fun h => by omega)
        rw [eT]
        by_cases e : el s j = el s (el (el p i) 1)
        · rw [if_pos (by simpa using e)]
          refine hnx _ ?_
          rw [set_tab j0]
          apply tab_congr
          intro x x0 x1
          by_cases h : x = j
          · subst h; rw [if_pos rfl, if_pos ⟨by omega, e⟩]
          · rw [if_neg h]
            by_cases h2 : x < j ∧ el s x = el s (el (el p i) 1)
            · rw [if_pos h2, if_pos ⟨by omega, h2.2⟩]
            · rw [if_neg h2, if_neg (fun z => h2 ⟨by omega, z.2⟩)]
        · rw [if_neg (by simpa using e)]
          refine hnx _ ?_
          apply tab_congr
          intro x x0 x1
          by_cases h2 : x < j ∧ el s x = el s (el (el p i) 1)
          · rw [if_pos h2, if_pos ⟨by omega, h2.2⟩]
          · rw [if_neg h2, if_neg (fun z => h2 ⟨by
              rcases Int.lt_trichotomy x j with q | q | q
              · exact q
              · subst q; exact absurd z.2 e
              · omega, z.2⟩)]
      · rintro t nx rfl
        have hL : (((tab (s.length : Int) fun x => if x < (s.length : Int) ∧ el s x = el s (el (el p i) 1) then el s (el (el p i) 0) else el s x).length : Nat) : Int) = (s.length : Int) := by rw [tab_length]; omega
        dsimp only
        rw [hL, if_neg (by simp)]
        refine hn _ ⟨by omega, ?_⟩
        have hm := hk.merge a0 a1 b0 b1 (.inl ⟨rfl, rfl⟩)
        have hm2 := hm.congr (S := Eqv (PairAt p (i + 1))) fun x y => Eqv.congr (fun x y h => .of ((pairAt_succ i0 x y).2 h)) (fun x y h => .of ((pairAt_succ i0 x y).1 h))
        intro x y x0 x1 y0 y1
        rw [el_tab x0 (by omega), el_tab y0 (by omega), ← hm2 x y x0 x1 y0 y1]
        have q : ∀ z, z < n → (if z < (s.length : Int) ∧ el s z = el s (el (el p i) 1) then el s (el (el p i) 0) else el s z) = if el s z = el s (el (el p i) 1) then el s (el (el p i) 0) else el s z := by
          intro z z1
          by_cases h : el s z = el s (el (el p i) 1)
          · rw [if_pos ⟨by omega, h⟩, if_pos h]
          · rw [if_neg (fun w => h w.2), if_neg h]
        rw [q x x1, q y y1]
  · rintro s next ⟨hl, hk⟩
    dsimp only
    rw [if_neg (by simp)]
    refine Ret.call (l01Classes_eq (by unfold Small; omega)) (Ret.some ⟨s, rfl, hl, hk⟩)

/-! ### the forest -/
/-- How many classes there are. -/
theorem classes_r {l : List Int} (sl : Small l) : Ret (M.impl_partition_classes (nrm l)) fun r => r = cnt l (l.length : Int) := by
  unfold M.impl_partition_classes
  have hn := nrm_len (l := l)
  unfold Small at sl
  refine Ret.acc ((nrm l).length : Int) (fun i s => s = cnt l i) (by omega) (by omega) rfl ?_ ?_
  · rintro i s next i0 i1 rfl hn2
    have f := first_spec (l := l) (by unfold Small; omega) i0 (by omega)
    have c1 := cnt_le (l := l) f.1.1
    have ci := cnt_le (l := l) i0
    dsimp only
    rw [if_pos (decide_eq_true i1)]
    refine Ret.idx i0 i1 ?_
    rw [nrm_el i0 (by omega)]
    have w : IntKind.i64.wrap (cnt l (indexL l (el l i)) + 1) = cnt l (indexL l (el l i)) + 1 := wrap_in (by omega) (by omega)
    rw [w]
    refine hn2 _ ?_
    rw [cnt_succ i0]
    by_cases hl : ldr l i = true
    · have hf : indexL l (el l i) = i := by unfold ldr at hl; exact beq_iff_eq.1 hl
      rw [hf, if_pos hl, if_pos (by omega)]
    · have hne : indexL l (el l i) ≠ i := fun e => hl (by unfold ldr; exact beq_iff_eq.2 e)
      have := cnt_lt (l := l) (j := i) f.1.1 (by omega) (ldr_first (by unfold Small; omega) i0 (by omega))
      rw [if_neg hl, if_neg (by omega)]; omega
  · rintro s next rfl
    dsimp only
    rw [if_neg (by simp)]
    exact Ret.some (by rw [hn])
end Go.Gx

/- The law of ProfunctorOfCollage. -/
namespace Go.Gx
open Classical
set_option maxHeartbeats 1000000

/-! ### the two halves -/
end Go.Gx

/- The law of SkeletonFunctor. -/
namespace Go.Gx
open Classical
set_option maxHeartbeats 1000000

/-! ### isomorphic objects -/
section
variable {c : XCategory}
def IsoR (c : XCategory) (x y : Int) : Prop := ∃ f, Ar c f x y ∧ 0 ≤ invA c f

theorem IsCat.assoc (h : IsCat c) {f g k x y z w : Int} (a : Ar c f x y) (b : Ar c g y z) (d : Ar c k z w) : cmp c (cmp c f g) k = cmp c f (cmp c g k) :=
  h.2.2 f g k a.p a.q b.p b.q d.p d.q (a.t.trans b.s.symm) (b.t.trans d.s.symm)
theorem IsCat.idl (h : IsCat c) {f x y : Int} (a : Ar c f x y) : cmp c (el c.Identity x) f = f := by
  have := (h.2.1 f a.p a.q).1
  rwa [a.s] at this
theorem IsCat.idr (h : IsCat c) {f x y : Int} (a : Ar c f x y) : cmp c f (el c.Identity y) = f := by
  have := (h.2.1 f a.p a.q).2
  rwa [a.t] at this
theorem InvP.flip {f g x y : Int} (a : Ar c f x y) (b : Ar c g y x) (h : InvP c f g) : InvP c g f := by
  unfold InvP at *
  rw [b.s, b.t]
  rw [a.s, a.t] at h
  exact ⟨h.2, h.1⟩
theorem IsoR.symm {x y : Int} (h : IsoR c x y) : IsoR c y x := by
  obtain ⟨f, a, i⟩ := h
  obtain ⟨b, p⟩ := invA_ar a i
  exact ⟨_, b, invA_of b a (p.flip a b)⟩
theorem IsoR.trans (hc : IsCat c) {x y z : Int} (h : IsoR c x y) (h' : IsoR c y z) : IsoR c x z := by
  have hs := hc.1.shp
  obtain ⟨f, a, i⟩ := h
  obtain ⟨g, b, k⟩ := h'
  obtain ⟨a', p⟩ := invA_ar a i
  obtain ⟨b', q⟩ := invA_ar b k
  refine ⟨cmp c f g, a.comp hs b, invA_of (a.comp hs b) (b'.comp hs a') ?_⟩
  unfold InvP at *
  rw [(a.comp hs b).s, (a.comp hs b).t]
  rw [a.s, a.t] at p
  rw [b.s, b.t] at q
  constructor
  · rw [hc.assoc a b (b'.comp hs a'), ← hc.assoc b b' a', ← q.1, hc.idl a', ← p.1]
  · rw [hc.assoc b' a' (a.comp hs b), ← hc.assoc a' a b, ← p.2, hc.idl b, ← q.2]
end

theorem pairAt_push {p : List (List Int)} {a b x y : Int} : PairAt (p ++ [[a, b]]) (((p ++ [[a, b]]).length : Nat) : Int) x y ↔ PairAt p (p.length : Int) x y ∨ (x = a ∧ y = b) := by
  have L : (((p ++ [[a, b]]).length : Nat) : Int) = (p.length : Int) + 1 := by simp
  have old : ∀ k, 0 ≤ k → k < (p.length : Int) → el (p ++ [[a, b]]) k = el p k := fun k k0 k1 => by
    unfold el
    rw [List.getD_eq_getElem?_getD, List.getD_eq_getElem?_getD, List.getElem?_append_left (by omega)]
  have new : el (p ++ [[a, b]]) (p.length : Int) = [a, b] := by
    unfold el
    rw [List.getD_eq_getElem?_getD]
    simp
  rw [L]
  constructor
  · rintro ⟨k, k0, k1, h⟩
    by_cases e : k = (p.length : Int)
    · subst e
      rw [new] at h
      exact .inr h
    · rw [old k k0 (by omega)] at h
      exact .inl ⟨k, k0, by omega, h⟩
  · rintro (⟨k, k0, k1, h⟩ | h)
    · exact ⟨k, k0, by omega, by rw [old k k0 k1]; exact h⟩
    · exact ⟨(p.length : Int), by omega, by omega, by rw [new]; exact h⟩
theorem pairsIn_push {n : Int} {p : List (List Int)} {a b : Int} (h : PairsIn n p) (a0 : 0 ≤ a) (a1 : a < n) (b0 : 0 ≤ b) (b1 : b < n) : PairsIn n (p ++ [[a, b]]) := by
  intro k k0 k1
  have L : (((p ++ [[a, b]]).length : Nat) : Int) = (p.length : Int) + 1 := by simp
  by_cases e : k = (p.length : Int)
  · have new : el (p ++ [[a, b]]) k = [a, b] := by
      subst e
      unfold el
      rw [List.getD_eq_getElem?_getD]
      simp
    rw [new]
    exact ⟨by simp, ⟨a0, a1⟩, ⟨b0, b1⟩⟩
  · have old : el (p ++ [[a, b]]) k = el p k := by
      unfold el
      rw [List.getD_eq_getElem?_getD, List.getD_eq_getElem?_getD, List.getElem?_append_left (by omega)]
    rw [old]
    exact h k k0 (by omega)

section
variable {c : XCategory}
def SkR (c : XCategory) (x y : Int) : Prop := ∃ f, 0 ≤ f ∧ f < (c.From.length : Int) ∧ 0 ≤ invA c f ∧ x = el c.From f ∧ y = el c.To f
theorem IsoR.sk {x y : Int} (h : IsoR c x y) : SkR c x y := by
  obtain ⟨f, a, i⟩ := h
  exact ⟨f, a.p, a.q, i, a.s.symm, a.t.symm⟩

/-- The classes: numbered, and told apart by isomorphism. -/
structure Cls (c : XCategory) (p : List Int) : Prop where
  len : (p.length : Int) = c.Objects
  idem : nrm p = p
  ker : ∀ x y, 0 ≤ x → x < c.Objects → 0 ≤ y → y < c.Objects → (el p x = el p y ↔ Eqv (SkR c) x y)

section
variable {p : List Int}
theorem Cls.sm (hp : Cls c p) (hs : Shp c) : Small p := by have := hp.len; have := hs.n8; unfold Small; omega
theorem Cls.at (hp : Cls c p) {x : Int} (x0 : 0 ≤ x) (x1 : x < c.Objects) : el p x = cnt p (indexL p (el p x)) := by
  have := nrm_el (l := p) x0 (by have := hp.len; omega)
  rwa [hp.idem] at this
/-! ### the functor to the skeleton -/
end
end

end Go.Gx

/- The law of QuotientFunctor. -/
namespace Go.Gx
open Classical
set_option maxHeartbeats 1000000

noncomputable abbrev fi (p : List Int) (x : Int) : Int := indexL p (el p x)

section
variable {p : List Int}
theorem fi_fi (sp : Small p) {x : Int} (x0 : 0 ≤ x) (x1 : x < (p.length : Int)) : fi p (fi p x) = fi p x := by
  have f := first_spec sp x0 x1
  unfold fi
  rw [f.2.1]
theorem cnt_onto {i : Int} (i0 : 0 ≤ i) (i1 : i ≤ 1048576) {v : Int} (v0 : 0 ≤ v) (v1 : v < cnt p i) : ∃ k, (0 ≤ k ∧ k < i) ∧ ldr p k = true ∧ cnt p k = v := by
  have L : ((fil i (ldr p)).length : Int) = cnt p i := rfl
  have hm := el_mem (l := fil i (ldr p)) v0 (by omega)
  have h := fil_mem.1 hm
  refine ⟨_, ⟨h.1, h.2.1⟩, h.2.2, ?_⟩
  have e := indexL_el (l := fil i (ldr p)) (by have := fil_length_le i (ldr p); unfold Small; omega) (fil_nodup _ _) v0 (by omega)
  rw [fil_place (ldr p) h.1 h.2.1 h.2.2 i1] at e
  exact e
theorem cnt_first_le (sp : Small p) {i : Int} (i0 : 0 ≤ i) (i1 : i < (p.length : Int)) : 0 ≤ cnt p (fi p i) ∧ cnt p (fi p i) ≤ cnt p i ∧ (cnt p (fi p i) = cnt p i ↔ ldr p i = true) := by
  have f : (0 ≤ fi p i ∧ fi p i ≤ i) ∧ _ := first_spec sp i0 i1
  have c0 : 0 ≤ cnt p (fi p i) ∧ cnt p (fi p i) ≤ fi p i := cnt_le (l := p) f.1.1
  have d : ldr p (fi p i) = true := ldr_first sp i0 i1
  by_cases h : ldr p i = true
  · have e : fi p i = i := by unfold ldr at h; exact beq_iff_eq.1 h
    rw [e]
    rw [e] at c0
    exact ⟨c0.1, Int.le_refl _, fun _ => h, fun _ => rfl⟩
  · have hne : fi p i ≠ i := fun e => h (by unfold ldr; exact beq_iff_eq.2 e)
    have hl : fi p i < i := by omega
    have := cnt_lt (l := p) f.1.1 hl d
    exact ⟨c0.1, by omega, fun e => absurd e (by omega), fun e => absurd e h⟩

theorem isNormal_eq (sp : Small p) : M.impl_partition_isNormal p = some (decide (nrm p = p)) := by
  apply Ret.eq
  have sp' := sp
  unfold Small at sp'
  unfold M.impl_partition_isNormal
  refine Ret.acc (p.length : Int) (fun i s => s = cnt p i ∧ ∀ k, 0 ≤ k → k < i → el p k = cnt p (fi p k)) (by omega) (by omega) ⟨rfl, fun k k0 k1 => by omega⟩ ?_ ?_
  · rintro i s next i0 i1 ⟨rfl, hp⟩ hn
    have c0 := cnt_le (l := p) i0
    have cf := cnt_first_le sp i0 i1
    dsimp only
    rw [if_pos (decide_eq_true i1)]
    refine Ret.idx i0 i1 (Ret.call (inRange_eq _ _ _) (Ret.ite (fun e => ?_) (fun e => Ret.some ?_)))
    · rw [Bool.and_eq_true, decide_eq_true_iff, decide_eq_true_iff] at e
      refine Ret.ite (fun e2 => ?_) (fun e2 => ?_)
      · have e2 : el p i = cnt p i := beq_iff_eq.1 e2
        have hl : ldr p i = true := by
          rw [ldr_iff sp i0 i1]
          intro k k0 k1 hk
          have a := hp k k0 k1
          have b := first_spec sp k0 (by omega)
          have d := cnt_lt (l := p) (j := i) b.1.1 (by omega) (ldr_first sp k0 (by omega))
          rw [hk, e2] at a
          unfold fi at a
          omega
        refine hn _ ⟨?_, fun k k0 k1 => ?_⟩
        · rw [cnt_succ i0, if_pos hl, wrap_in (by omega) (by omega)]
        · by_cases z : k = i
          · subst z; rw [e2]; exact (cf.2.2.2 hl).symm
          · exact hp k k0 (by omega)
      · have e2 : el p i ≠ cnt p i := fun z => e2 (beq_iff_eq.2 z)
        obtain ⟨k, ⟨k0, k1⟩, hk, hv⟩ := cnt_onto i0 (by omega) e.1 (show el p i < cnt p i by omega)
        have a := hp k k0 k1
        have ek : fi p k = k := by unfold ldr at hk; exact beq_iff_eq.1 hk
        rw [ek, hv] at a
        have fe : fi p i = k := by unfold fi; rw [← a]; exact ek
        have hl : ¬ ldr p i = true := fun z => (ldr_iff sp i0 i1).1 z k k0 k1 a
        refine hn _ ⟨?_, fun q q0 q1 => ?_⟩
        · rw [cnt_succ i0, if_neg hl]; omega
        · by_cases z : q = i
          · subst z; rw [fe, hv]
          · exact hp q q0 (by omega)
    · rw [decide_eq_false]
      intro z
      apply e
      have := nrm_el (l := p) i0 i1
      rw [z] at this
      rw [Bool.and_eq_true, decide_eq_true_iff, decide_eq_true_iff, this]
      exact ⟨cf.1, cf.2.1⟩
  · rintro s next ⟨rfl, hp⟩
    dsimp only
    rw [if_neg (by simp)]
    refine Ret.some (decide_eq_true ?_).symm
    conv => rhs; rw [← tab_el p]
    unfold nrm
    apply tab_congr
    intro k k0 k1
    exact (hp k k0 k1).symm
end

/-! ### congruences -/
section
variable {c : XCategory} {p : List Int}
def ParP (c : XCategory) (p : List Int) : Prop := ∀ k, 0 ≤ k → k < (c.From.length : Int) → el c.From (fi p k) = el c.From k ∧ el c.To (fi p k) = el c.To k
/-- Two arrows with one label are put between others. -/
def SprP (c : XCategory) (p : List Int) : Prop := ∀ k, 0 ≤ k → k < (c.From.length : Int) → ∀ f, 0 ≤ f → f < (c.From.length : Int) → ∀ g, 0 ≤ g → g < (c.From.length : Int) →
  el c.To f = el c.From (fi p k) → el c.To (fi p k) = el c.From g → el p (cmp c (cmp c f (fi p k)) g) = el p (cmp c (cmp c f k) g)
def CmpP (c : XCategory) (p : List Int) : Prop := ∀ f, 0 ≤ f → f < (c.From.length : Int) → ∀ g, 0 ≤ g → g < (c.From.length : Int) → el c.To f = el c.From g → el p (cmp c f g) = el p (cmp c (fi p f) (fi p g))
structure Nor (c : XCategory) (p : List Int) : Prop where
  cat : IsCat c
  len : (p.length : Int) = (c.From.length : Int)
  nor : nrm p = p

theorem Nor.sm (h : Nor c p) : Small p := by have := h.len; have := h.cat.1.shp.m40; unfold Small; omega
theorem Nor.fi (h : Nor c p) {k : Int} (k0 : 0 ≤ k) (k1 : k < (c.From.length : Int)) : 0 ≤ fi p k ∧ fi p k < (c.From.length : Int) ∧ el p (fi p k) = el p k := by
  have f := first_spec h.sm k0 (by have := h.len; omega)
  refine ⟨f.1.1, ?_, f.2.1⟩
  have : Go.Gx.fi p k ≤ k := f.1.2
  omega

theorem spr_iff (h : Nor c p) (hp : ParP c p) : SprP c p ↔ CmpP c p := by
  have hs := h.cat.1.shp
  constructor
  · intro q f f0 f1 g g0 g1 e
    have ff := h.fi f0 f1
    have gg := h.fi g0 g1
    have af := Ar.of f0 f1
    have ag : Ar c g (el c.To f) (el c.To g) := ⟨g0, g1, e.symm, rfl⟩
    have af' : Ar c (fi p f) (el c.From f) (el c.To f) := ⟨ff.1, ff.2.1, (hp f f0 f1).1, (hp f f0 f1).2⟩
    have ag' : Ar c (fi p g) (el c.To f) (el c.To g) := ⟨gg.1, gg.2.1, by rw [(hp g g0 g1).1, e], (hp g g0 g1).2⟩
    have s := hs.from_in f f0 f1
    have t := hs.to_in g g0 g1
    have i1 := Ar.one hs s.1 s.2
    have i2 := Ar.one hs t.1 t.2
    have q1 := q f f0 f1 _ i1.p i1.q g g0 g1 (by rw [i1.t, af'.s]) (by rw [af'.t, e])
    rw [h.cat.idl af', h.cat.idl af] at q1
    have q2 := q g g0 g1 (fi p f) ff.1 ff.2.1 _ i2.p i2.q (by rw [af'.t, ag'.s]) (by rw [ag'.t, i2.s])
    rw [h.cat.idr (af'.comp hs ag'), h.cat.idr (af'.comp hs ag)] at q2
    rw [← q1, ← q2]
  · intro q k k0 k1 f f0 f1 g g0 g1 e1 e2
    have kk := h.fi k0 k1
    have ak' : Ar c (fi p k) (el c.From k) (el c.To k) := ⟨kk.1, kk.2.1, (hp k k0 k1).1, (hp k k0 k1).2⟩
    have ak := Ar.of k0 k1
    have af : Ar c f (el c.From f) (el c.From k) := ⟨f0, f1, rfl, by rw [e1, ak'.s]⟩
    have ag : Ar c g (el c.To k) (el c.To g) := ⟨g0, g1, by rw [← e2, ak'.t], rfl⟩
    have c1 := af.comp hs ak'
    have c2 := af.comp hs ak
    have z : el p (cmp c f (fi p k)) = el p (cmp c f k) := by
      rw [q f f0 f1 _ kk.1 kk.2.1 e1, q f f0 f1 k k0 k1 (by rw [af.t]), fi_fi h.sm k0 (by have := h.len; omega)]
    rw [q _ c1.p c1.q g g0 g1 (by rw [c1.t, ag.s]), q _ c2.p c2.q g g0 g1 (by rw [c2.t, ag.s])]
    unfold fi at z ⊢
    rw [z]

theorem l01Pairs_eq (sp : Small p) : M.spec_l01Pairs p = some (tab (p.length : Int) fun k => [fi p k, k]) := by
  apply Ret.eq
  have sp' := sp
  unfold Small at sp'
  unfold M.spec_l01Pairs
  refine Ret.acc (p.length : Int) (fun i s => s = tab i fun k => [fi p k, k]) (by omega) (by omega) rfl ?_ ?_
  · rintro i s next i0 i1 rfl hn
    have L : (((tab i fun k => [fi p k, k]).length : Nat) : Int) = i := by rw [tab_length]; omega
    dsimp only
    rw [if_pos (decide_eq_true i1)]
    exact Ret.idx i0 i1 (Ret.call (l01Index_eq sp _) (Ret.chk (by unfold lim; omega) (hn _ (tab_succ (fun k => [fi p k, k]) i0).symm)))
  · rintro s next rfl
    dsimp only
    rw [if_neg (by simp)]
    exact Ret.some rfl

/-- What the list of pairs holds when k, f, g are next. -/
structure SprI (c : XCategory) (p : List Int) (k f g : Int) (l : List (List Int)) : Prop where
  pin : PairsIn (c.From.length : Int) l
  len : (l.length : Int) ≤ 40 + 1600 * k + 40 * f + g
  snd : ∀ x y, PairAt l (l.length : Int) x y → (∃ k, (0 ≤ k ∧ k < (c.From.length : Int)) ∧ x = fi p k ∧ y = k) ∨
    ∃ k f g, (0 ≤ k ∧ k < (c.From.length : Int)) ∧ (0 ≤ f ∧ f < (c.From.length : Int)) ∧ (0 ≤ g ∧ g < (c.From.length : Int)) ∧ el c.To f = el c.From (fi p k) ∧ el c.To (fi p k) = el c.From g ∧ x = cmp c (cmp c f (fi p k)) g ∧ y = cmp c (cmp c f k) g
  old : ∀ k, 0 ≤ k → k < (c.From.length : Int) → PairAt l (l.length : Int) (fi p k) k
  new : ∀ k' f' g', (0 ≤ k' ∧ k' < (c.From.length : Int)) → (0 ≤ f' ∧ f' < (c.From.length : Int)) → (0 ≤ g' ∧ g' < (c.From.length : Int)) → (k' < k ∨ (k' = k ∧ (f' < f ∨ (f' = f ∧ g' < g)))) →
    el c.To f' = el c.From (fi p k') → el c.To (fi p k') = el c.From g' → PairAt l (l.length : Int) (cmp c (cmp c f' (fi p k')) g') (cmp c (cmp c f' k') g')

theorem l03Spread_r (h : Nor c p) (hp : ParP c p) : Ret (M.spec_l03Spread c (tab (c.From.length : Int) fun k => [fi p k, k])) fun r => Small r ∧ (p = r ↔ SprP c p) := by
  have hs := h.cat.1.shp
  have m40 := hs.m40
  have lt := hs.lto
  have lp := h.len
  have L : (((tab (c.From.length : Int) fun k => [fi p k, k]).length : Nat) : Int) = (c.From.length : Int) := by rw [tab_length]; omega
  have eT : ∀ k, 0 ≤ k → k < (c.From.length : Int) → el (tab (c.From.length : Int) fun k => [fi p k, k]) k = [fi p k, k] := fun k k0 k1 => el_tab k0 k1
  unfold M.spec_l03Spread
  refine Ret.call (own2_eq (by unfold Small; omega) fun r hr => ?_) ?_
  · obtain ⟨k, k0, k1, rfl⟩ := mem_el hr
    rw [eT k k0 (by omega)]
    simp [Small]
  refine Ret.acc (((tab (c.From.length : Int) fun k => [fi p k, k]).length : Nat) : Int) (fun k l => SprI c p k 0 0 l) (by omega) (by omega) ?_ ?_ ?_
  · refine ⟨fun k k0 k1 => ?_, by omega, fun x y ⟨k, k0, k1, e1, e2⟩ => ?_, fun k k0 k1 => ⟨k, k0, by omega, ?_⟩, fun _ _ _ a b d z => by omega⟩
    · rw [eT k k0 (by omega)]
      have f := h.fi k0 (by omega)
      exact ⟨by simp, ⟨f.1, f.2.1⟩, ⟨k0, by show k < _; omega⟩⟩
    · rw [eT k k0 (by omega)] at e1 e2
      exact .inl ⟨k, ⟨k0, by omega⟩, e1, e2⟩
    · rw [eT k k0 k1]; exact ⟨rfl, rfl⟩
  · rintro k l next k0 k1 hI hn
    have k1' : k < (c.From.length : Int) := by omega
    have kk := h.fi k0 k1'
    have ak' : Ar c (fi p k) (el c.From k) (el c.To k) := ⟨kk.1, kk.2.1, (hp k k0 k1').1, (hp k k0 k1').2⟩
    have ak := Ar.of k0 k1'
    have w : IntKind.i64.wrap (k + 1) = k + 1 := wrap_in (by omega) (by omega)
    dsimp only
    rw [if_pos (decide_eq_true k1)]
    refine Ret.idx k0 k1 ?_
    rw [eT k k0 k1']
    refine Ret.idx (l := [fi p k, k]) (i := 0) (by omega) (by simp) (Ret.idx (l := [fi p k, k]) (i := 1) (by omega) (by simp) ?_)
    have el0 : el [fi p k, k] 0 = fi p k := rfl
    have el1 : el [fi p k, k] 1 = k := rfl
    rw [el0, el1]
    refine Ret.acc (c.From.length : Int) (fun f l => SprI c p k f 0 l) (by omega) (by omega) hI ?_ ?_
    · rintro f l nx f0 f1 hI hn2
      dsimp only
      rw [if_pos (decide_eq_true f1)]
      refine Ret.acc (c.From.length : Int) (fun g l => SprI c p k f g l) (by omega) (by omega) hI ?_ ?_
      · rintro g l nx3 g0 g1 hI hn3
        have skip : (¬ (el c.To f = el c.From (fi p k) ∧ el c.To (fi p k) = el c.From g)) → SprI c p k f (g + 1) l := fun hno => ⟨hI.pin, by have := hI.len; omega, hI.snd, hI.old, fun k' f' g' a b d z q1 q2 => by
          by_cases e : k' = k ∧ f' = f ∧ g' = g
          · obtain ⟨rfl, rfl, rfl⟩ := e
            exact absurd ⟨q1, q2⟩ hno
          · exact hI.new k' f' g' a b d (by omega) q1 q2⟩
        dsimp only
        rw [if_pos (decide_eq_true g1)]
        refine Ret.idx f0 (by omega) (Ret.idx kk.1 kk.2.1 (Ret.ite (fun e1 => ?_) (fun e1 => hn3 _ (skip fun z => e1 (beq_iff_eq.2 z.1)))))
        refine Ret.idx kk.1 (by omega) (Ret.idx g0 g1 (Ret.ite (fun e2 => ?_) (fun e2 => hn3 _ (skip fun z => e2 (beq_iff_eq.2 z.2)))))
        have e1 := beq_iff_eq.1 e1
        have e2 := beq_iff_eq.1 e2
        have af : Ar c f (el c.From f) (el c.From k) := ⟨f0, f1, rfl, by rw [e1, ak'.s]⟩
        have ag : Ar c g (el c.To k) (el c.To g) := ⟨g0, g1, by rw [← e2, ak'.t], rfl⟩
        have c1 := af.comp hs ak'
        have c2 := af.comp hs ak
        have d1 := c1.comp hs ag
        have d2 := c2.comp hs ag
        refine Ret.call (af.th hs ak') (Ret.call (c1.th hs ag) (Ret.call (af.th hs ak) (Ret.call (c2.th hs ag) (Ret.chk (by have := hI.len; unfold lim; omega) (hn3 _ ⟨?_, ?_, ?_, ?_, ?_⟩)))))
        · exact pairsIn_push hI.pin d1.p d1.q d2.p d2.q
        · have := hI.len; simp only [List.length_append, List.length_cons, List.length_nil]; omega
        · intro x y z
          rcases pairAt_push.1 z with z | ⟨rfl, rfl⟩
          · exact hI.snd x y z
          · exact .inr ⟨k, f, g, ⟨k0, k1'⟩, ⟨f0, f1⟩, ⟨g0, g1⟩, e1, e2, rfl, rfl⟩
        · intro q q0 q1
          exact pairAt_push.2 (.inl (hI.old q q0 q1))
        · intro k' f' g' a b d z q1 q2
          by_cases e : k' = k ∧ f' = f ∧ g' = g
          · obtain ⟨rfl, rfl, rfl⟩ := e
            exact pairAt_push.2 (.inr ⟨rfl, rfl⟩)
          · exact pairAt_push.2 (.inl (hI.new k' f' g' a b d (by omega) q1 q2))
      · rintro l nx3 hI
        dsimp only
        rw [if_neg (by simp)]
        exact hn2 _ ⟨hI.pin, by have := hI.len; omega, hI.snd, hI.old, fun k' f' g' a b d z => hI.new k' f' g' a b d (by omega)⟩
    · rintro l nx hI
      dsimp only
      rw [if_neg (by simp)]
      exact hn _ ⟨hI.pin, by have := hI.len; omega, hI.snd, hI.old, fun k' f' g' a b d z => hI.new k' f' g' a b d (by omega)⟩
  · rintro l next hI
    dsimp only
    rw [if_neg (by simp)]
    have hlen := hI.len
    refine Ret.bindId (Ret.mono (l01Join_r (by omega) (by omega) (by omega) hI.pin) ?_)
    rintro r ⟨q, rfl, hq, hk⟩
    have sq : Small q := by unfold Small; omega
    refine ⟨nrm_small sq, ?_⟩
    constructor
    · intro e k k0 k1 f f0 f1 g g0 g1 e1 e2
      have kk := h.fi k0 k1
      have ak' : Ar c (fi p k) (el c.From k) (el c.To k) := ⟨kk.1, kk.2.1, (hp k k0 k1).1, (hp k k0 k1).2⟩
      have ak := Ar.of k0 k1
      have af : Ar c f (el c.From f) (el c.From k) := ⟨f0, f1, rfl, by rw [e1, ak'.s]⟩
      have ag : Ar c g (el c.To k) (el c.To g) := ⟨g0, g1, by rw [← e2, ak'.t], rfl⟩
      have d1 := (af.comp hs ak').comp hs ag
      have d2 := (af.comp hs ak).comp hs ag
      have := (hk _ _ d1.p d1.q d2.p d2.q).2 (.of (hI.new k f g ⟨k0, k1⟩ ⟨f0, f1⟩ ⟨g0, g1⟩ (by omega) e1 e2))
      have this := (nrm_ker sq d1.p (by have := d1.q; omega) d2.p (by have := d2.q; omega)).2 this
      rw [← e] at this
      exact this
    · intro hS
      have e : nrm q = nrm p := by
        refine nrm_congr sq (by omega) fun x y x0 x1 y0 y1 => ?_
        rw [hk x y x0 (by omega) y0 (by omega)]
        constructor
        · intro z
          refine Eqv.into (f := el p) (fun a b hab => ?_) z
          rcases hI.snd a b hab with ⟨k, kr, rfl, rfl⟩ | ⟨k, f, g, kr, fr, gr, e1, e2, rfl, rfl⟩
          · exact (h.fi kr.1 kr.2).2.2
          · exact hS k kr.1 kr.2 f fr.1 fr.2 g gr.1 gr.2 e1 e2
        · intro z
          have a := hI.old x x0 (by omega)
          have b := hI.old y y0 (by omega)
          have : fi p x = fi p y := by unfold fi; rw [z]
          rw [this] at a
          exact (Eqv.of a).symm.trans (.of b)
      rw [e, h.nor]

theorem l03Congruence_eq (hc : IsCat c) (sp : Small p) : M.spec_l03Congruence c p = some (decide ((p.length : Int) = (c.From.length : Int) ∧ nrm p = p ∧ ParP c p ∧ CmpP c p)) := by
  apply Ret.eq
  have hs := hc.1.shp
  have m40 := hs.m40
  have lt := hs.lto
  unfold M.spec_l03Congruence
  by_cases hl : (p.length : Int) = (c.From.length : Int)
  · rw [if_neg (by simpa using hl)]
    have e1 : M.spec_IsPartition p = some (decide (nrm p = p)) := by
      unfold M.spec_IsPartition
      rw [if_pos (decide_eq_true (by omega)), l01Classes_eq sp, Option.bind_some, l01Same_eq sp (nrm_small sp), Option.bind_some]
      congr 1
      rw [decide_eq_decide]
      exact eq_comm
    refine Ret.call e1 (Ret.ite (fun hn => ?_) (fun hn => Ret.some ?_))
    · have hn := of_decide_eq_true hn
      have h : Nor c p := ⟨hc, hl, hn⟩
      refine Ret.call (l01Pairs_eq sp) ?_
      rw [hl]
      have L : (((tab (c.From.length : Int) fun k => [fi p k, k]).length : Nat) : Int) = (c.From.length : Int) := by rw [tab_length]; omega
      rw [L]
      refine Ret.all (c.From.length : Int) (fun k => el c.From (fi p k) = el c.From k ∧ el c.To (fi p k) = el c.To k) (by omega) (by omega) ?_ ?_
      · intro k next k0 k1 hp hnx
        have kk := h.fi k0 k1
        rw [if_pos (decide_eq_true k1)]
        refine Ret.idx k0 (by omega) ?_
        rw [el_tab k0 k1]
        refine Ret.idx (l := [fi p k, k]) (i := 0) (by omega) (by simp) (Ret.idx (l := [fi p k, k]) (i := 1) (by omega) (by simp) ?_)
        have el0 : el [fi p k, k] 0 = fi p k := rfl
        have el1 : el [fi p k, k] 1 = k := rfl
        rw [el0, el1]
        have e2 : M.spec_l03Parallel c (fi p k) k = some (decide (el c.From (fi p k) = el c.From k ∧ el c.To (fi p k) = el c.To k)) := by
          unfold M.spec_l03Parallel
          rw [idx_el kk.1 kk.2.1, idx_el k0 k1, idx_el kk.1 (show fi p k < (c.To.length : Int) by omega), idx_el k0 (show k < (c.To.length : Int) by omega)]
          simp only [Option.bind_some, beq_iff_eq]
          by_cases a : el c.From (fi p k) = el c.From k <;> by_cases b : el c.To (fi p k) = el c.To k <;> simp [a, b]
        refine Ret.call e2 (Ret.ite (fun e => hnx (of_decide_eq_true e)) (fun e => Ret.some ?_))
        rw [decide_eq_false (fun z => e (decide_eq_true (z.2.2.1 k k0 k1)))]
      · intro next hp
        rw [if_neg (by simp)]
        refine Ret.bind (l03Spread_r h hp) ?_
        rintro r ⟨sr, er⟩
        refine Ret.call (l01Same_eq sp sr) (Ret.some ?_)
        rw [decide_eq_decide, er, spr_iff h hp]
        exact ⟨fun z => ⟨rfl, hn, hp, z⟩, fun z => z.2.2.2⟩
    · rw [decide_eq_false (fun z => hn (decide_eq_true z.2.1))]
  · rw [if_pos (by simpa using hl)]
    refine Ret.some ?_
    rw [decide_eq_false (fun z => hl z.1)]

/-- What the map of firsts holds before i. -/
structure FirM (p : List Int) (i : Int) (m : List (Int × Int)) : Prop where
  some : ∀ k, 0 ≤ k → k < i → mget (el p k) m = some (fi p k)
  none : ∀ v, (∀ k, 0 ≤ k → k < i → el p k ≠ v) → mget v m = none

theorem isCongruence_eq (hc : IsCat c) (sp : Small p) : M.impl_Category_isCongruence c p = some (decide ((p.length : Int) = (c.From.length : Int) ∧ nrm p = p ∧ ParP c p ∧ CmpP c p)) := by
  apply Ret.eq
  have hs := hc.1.shp
  have m40 := hs.m40
  have lt := hs.lto
  have lc := hs.lco
  unfold M.impl_Category_isCongruence M.impl_Category_arrows
  simp only [Option.bind_some]
  by_cases hl : (p.length : Int) = (c.From.length : Int)
  · rw [if_neg (by simpa using hl)]
    refine Ret.call (isNormal_eq sp) (Ret.ite (fun hn => ?_) (fun hn => Ret.some ?_))
    · have hn := of_decide_eq_true hn
      have h : Nor c p := ⟨hc, hl, hn⟩
      refine Ret.acc (p.length : Int) (fun i m => FirM p i m ∧ ∀ k, 0 ≤ k → k < i → el c.From (fi p k) = el c.From k ∧ el c.To (fi p k) = el c.To k) (by omega) (by omega) ⟨⟨fun k k0 k1 => by omega, fun v _ => rfl⟩, fun k k0 k1 => by omega⟩ ?_ ?_
      · rintro i m next i0 i1 ⟨hm, hp⟩ hnx
        have kk := h.fi i0 (by omega)
        dsimp only
        rw [if_pos (decide_eq_true i1)]
        refine Ret.idx i0 i1 ?_
        unfold joinM
        dsimp only
        have key : ∀ m', FirM p (i + 1) m' → Ret ((M.impl_Category_ends c i).bind fun v14 =>
            (M.impl_Category_ends c ((mget (el p i) m').getD 0)).bind fun v15 =>
            if ((v14.from_ == v15.from_) && (v14.to_ == v15.to_)) == false then
              some false
            else
              next (m', IntKind.i64.wrap (i + 1))) fun r => r = decide ((p.length : Int) = (c.From.length : Int) ∧ nrm p = p ∧ ParP c p ∧ CmpP c p) := by
          intro m' hm'
          rw [hm'.some i i0 (by omega)]
          refine Ret.call (ends_eq i0 (by omega) (by omega)) (Ret.call (ends_eq kk.1 (by show fi p i < _; omega) (by show fi p i < _; omega)) ?_)
          dsimp only
          by_cases e : el c.From (fi p i) = el c.From i ∧ el c.To (fi p i) = el c.To i
          · have e1 : el c.From i = el c.From (indexL p (el p i)) := e.1.symm
            have e2 : el c.To i = el c.To (indexL p (el p i)) := e.2.symm
            rw [if_neg (by
              show ¬ ((el c.From i == el c.From (indexL p (el p i))) && (el c.To i == el c.To (indexL p (el p i)))) == false
              rw [← e1, ← e2]; simp)]
            refine hnx _ ⟨hm', fun k k0 k1 => ?_⟩
            by_cases z : k = i
            · subst z; exact e
            · exact hp k k0 (by omega)
          · have hf : ((el c.From i == el c.From (indexL p (el p i))) && (el c.To i == el c.To (indexL p (el p i)))) = false := by
              rw [Bool.eq_false_iff]
              intro z
              rw [Bool.and_eq_true, beq_iff_eq, beq_iff_eq] at z
              exact e ⟨z.1.symm, z.2.symm⟩
            rw [if_pos (by
              show (((el c.From i == el c.From (indexL p (el p i))) && (el c.To i == el c.To (indexL p (el p i)))) == false) = true
              rw [hf]; rfl)]
            refine Ret.some ?_
            rw [decide_eq_false (fun z => e (z.2.2.1 i i0 (by omega)))]
        by_cases hl2 : ldr p i = true
        · have hno : mget (el p i) m = none := hm.none _ fun k k0 k1 => (ldr_iff sp i0 i1).1 hl2 k k0 k1
          have hf : fi p i = i := by unfold ldr at hl2; exact beq_iff_eq.1 hl2
          rw [hno, if_neg (by simp)]
          refine key _ ⟨fun k k0 k1 => ?_, fun v hv => ?_⟩
          · rw [mget_mput]
            by_cases z : el p k = el p i
            · rw [if_pos z]
              have : fi p k = fi p i := by unfold fi; rw [z]
              rw [this, hf]
            · rw [if_neg z]
              exact hm.some k k0 (by
                by_cases w : k = i
                · subst w; exact absurd rfl z
                · omega)
          · rw [mget_mput, if_neg (fun e => hv i i0 (by omega) e.symm)]
            exact hm.none v fun k k0 k1 => hv k k0 (by omega)
        · have f := first_spec sp i0 i1
          have hne : fi p i ≠ i := fun e => hl2 (by unfold ldr; exact beq_iff_eq.2 e)
          have hlt : fi p i < i := by
            have : fi p i ≤ i := f.1.2
            omega
          have hsm := hm.some (fi p i) f.1.1 hlt
          have fe : el p (fi p i) = el p i := f.2.1
          rw [fe] at hsm
          have hso : (mget (el p i) m).isSome = true := by rw [hsm]; rfl
          rw [if_pos hso]
          refine key _ ⟨fun k k0 k1 => ?_, fun v hv => hm.none v fun k k0 k1 => hv k k0 (by omega)⟩
          by_cases z : k = i
          · subst z
            rw [hsm]
            have := fi_fi sp i0 i1
            rw [this]
          · exact hm.some k k0 (by omega)
      · rintro m next ⟨hm, hp⟩
        dsimp only
        rw [if_neg (by simp)]
        have hp : ParP c p := fun k k0 k1 => hp k k0 (by omega)
        rw [lc]
        refine Ret.all (c.From.length : Int) (fun f => ∀ g, 0 ≤ g → g < (c.From.length : Int) → el c.To f = el c.From g → el p (cmp c f g) = el p (cmp c (fi p f) (fi p g))) (by omega) (by omega) ?_ ?_
        · intro f nx f0 f1 hq hn2
          have ff := h.fi f0 f1
          have rf := hs.row f f0 f1
          rw [if_pos (decide_eq_true f1)]
          refine Ret.idx f0 (by omega) ?_
          rw [rf]
          refine Ret.all (c.From.length : Int) (fun g => el c.To f = el c.From g → el p (cmp c f g) = el p (cmp c (fi p f) (fi p g))) (by omega) (by omega) ?_ ?_
          · intro g nx3 g0 g1 hr hn3
            have gg := h.fi g0 g1
            rw [if_pos (decide_eq_true g1)]
            refine Ret.idx g0 (by omega) (Ret.ite (fun e => ?_) (fun e => hn3 fun z => absurd (decide_eq_true (hs.yes f g f0 f1 g0 g1 z).1) e))
            have e := of_decide_eq_true e
            have he : el c.To f = el c.From g := by
              apply Decidable.byContradiction
              intro hne
              have := hs.no f g f0 f1 g0 g1 hne
              have e : 0 ≤ cmp c f g := e
              omega
            have y := hs.yes f g f0 f1 g0 g1 he
            have af' : Ar c (fi p f) (el c.From f) (el c.To f) := ⟨ff.1, ff.2.1, (hp f f0 f1).1, (hp f f0 f1).2⟩
            have ag' : Ar c (fi p g) (el c.To f) (el c.To g) := ⟨gg.1, gg.2.1, by rw [(hp g g0 g1).1, he], (hp g g0 g1).2⟩
            have cc := af'.comp hs ag'
            refine Ret.idx (show 0 ≤ cmp c f g from y.1) (show cmp c f g < _ by omega) (Ret.idx f0 (by omega) (Ret.idx g0 (by omega) ?_))
            rw [hm.some f f0 (by omega), hm.some g g0 (by omega), Option.getD_some, Option.getD_some]
            refine Ret.call (af'.ti hs ag') (Ret.idx cc.p (by have := cc.q; omega) (Ret.ite (fun e4 => Ret.some ?_) (fun e4 => hn3 fun _ => ?_)))
            · rw [decide_eq_false]
              intro z
              have := z.2.2.2 f f0 f1 g g0 g1 he
              exact absurd this (bne_iff_ne.1 e4)
            · exact Decidable.byContradiction fun z => e4 (bne_iff_ne.2 z)
          · intro nx3 hr
            rw [if_neg (by simp)]
            exact hn2 hr
        · intro nx hq
          rw [if_neg (by simp)]
          exact Ret.some (decide_eq_true ⟨hl, hn, hp, hq⟩).symm
    · rw [decide_eq_false (fun z => hn (decide_eq_true z.2.1))]
  · rw [if_pos (by simpa using hl)]
    refine Ret.some ?_
    rw [decide_eq_false (fun z => hl z.1)]

/-! ### the quotient -/
noncomputable def fsL (p : List Int) : List Int := fil (p.length : Int) (ldr p)
noncomputable def quoC (c : XCategory) (p : List Int) : XCategory :=
  ⟨c.Objects, (fsL p).map (el c.From), (fsL p).map (el c.To), thenL c.Identity p, (fsL p).map fun f => (fsL p).map fun g => if 0 ≤ cmp c f g then el p (cmp c f g) else cmp c f g⟩

theorem fsL_mem {x : Int} : x ∈ fsL p ↔ 0 ≤ x ∧ x < (p.length : Int) ∧ ldr p x = true := fil_mem
theorem fsL_len : ((fsL p).length : Int) = cnt p (p.length : Int) := rfl
theorem fsL_le : ((fsL p).length : Int) ≤ (p.length : Int) := by
  have := fil_length_le (p.length : Int) (ldr p)
  unfold fsL; omega
theorem idIn (h : Nor c p) : In (p.length : Int) c.Identity := by
  intro i i0 i1
  have hs := h.cat.1.shp
  have := hs.id_in i i0 (by have := hs.lid; omega)
  have := h.len
  omega
theorem quoC_small (h : Nor c p) : SmallC (quoC c p) := by
  have m40 := h.cat.1.shp.m40
  have n8 := h.cat.1.shp.n8
  have li := h.cat.1.shp.lid
  have lp := h.len
  have lf := fsL_le (p := p)
  refine ⟨?_, ?_, ?_, ?_, ?_⟩
  · show (((fsL p).map _).length : Int) ≤ _; rw [List.length_map]; omega
  · show (((fsL p).map _).length : Int) ≤ _; rw [List.length_map]; omega
  · exact thenL_small (by unfold Small; omega)
  · show (((fsL p).map _).length : Int) ≤ _; rw [List.length_map]; omega
  · intro r hr
    obtain ⟨f, _, rfl⟩ := List.mem_map.1 hr
    show (((fsL p).map _).length : Int) ≤ _; rw [List.length_map]; omega

theorem l03Quotient_eq (h : Nor c p) : M.spec_l03Quotient c p = some (quoC c p) := by
  apply Ret.eq
  have hs := h.cat.1.shp
  have sp := h.sm
  have m40 := hs.m40
  have n0 := hs.n0
  have n8 := hs.n8
  have lt := hs.lto
  have lc := hs.lco
  have li := hs.lid
  have lp := h.len
  have lf := fsL_le (p := p)
  have sf : Small (fsL p) := by unfold Small; omega
  unfold M.spec_l03Quotient
  refine fil_loop (n := (p.length : Int)) (p := ldr p) (by omega) (by omega) ?_ ?_
  · intro x next x0 x1 hs' hy hn
    dsimp only
    rw [if_pos (decide_eq_true x1)]
    refine Ret.idx x0 x1 (Ret.call (l01Index_eq sp _) (Ret.ite (fun h1 => Ret.chk ?_ (hy h1)) (fun h1 => hn (Bool.eq_false_iff.2 h1))))
    unfold lim; simp only [List.length_cons, List.length_nil]; omega
  intro next
  dsimp only
  rw [if_neg (by simp)]
  refine Ret.acc c.Objects (fun i s => s = tab i fun x => el p (el c.Identity x)) n0 (by omega) rfl ?_ ?_
  · rintro i s next i0 i1 rfl hn
    have L : (((tab i fun x => el p (el c.Identity x)).length : Nat) : Int) = i := by rw [tab_length]; omega
    have ix := hs.id_in i i0 i1
    dsimp only
    rw [if_pos (decide_eq_true i1)]
    refine Ret.idx i0 (by omega) (Ret.idx ix.1 (by omega) (Ret.chk (by unfold lim; simp only [List.length_cons, List.length_nil]; omega) (hn _ ?_)))
    rw [tab_succ _ i0]
  rintro s next rfl
  dsimp only
  rw [if_neg (by simp)]
  rw [show (fil (p.length : Int) (ldr p)) = fsL p from rfl]
  refine Ret.loop ((fsL p).length : Int) (fun i s => s = (((fsL p).take i.toNat).map (el c.From), ((fsL p).take i.toNat).map (el c.To),
      ((fsL p).take i.toNat).map (fun f => (fsL p).map fun g => if 0 ≤ cmp c f g then el p (cmp c f g) else cmp c f g), i)) (by omega) (by omega) rfl ?_ ?_
  · rintro i s next i0 i1 rfl hn
    have mf := fsL_mem.1 (el_mem (l := fsL p) i0 i1)
    have rf := hs.row _ mf.1 (by omega)
    dsimp only
    rw [if_pos (decide_eq_true i1)]
    have l1 : ∀ {α : Type} (F : Int → α), ((((fsL p).take i.toNat).map F).length : Int) ≤ 40 := fun F => by rw [List.length_map, List.length_take]; omega
    have l2 := l1 (el c.From)
    have l3 := l1 (el c.To)
    have l4 := l1 fun f => (fsL p).map fun g => if 0 ≤ cmp c f g then el p (cmp c f g) else cmp c f g
    refine Ret.idx i0 i1 (Ret.idx mf.1 (by omega) (Ret.chk (by unfold lim; simp only [List.length_cons, List.length_nil]; omega) (Ret.idx mf.1 (by omega) (Ret.chk (by unfold lim; simp only [List.length_cons, List.length_nil]; omega) ?_))))
    refine map_loop (l := fsL p) (F := fun g => if 0 ≤ cmp c (el (fsL p) i) g then el p (cmp c (el (fsL p) i) g) else cmp c (el (fsL p) i) g) sf ?_ ?_
    · intro j s nx j0 j1 hs2 hn2
      have mg := fsL_mem.1 (el_mem (l := fsL p) j0 j1)
      dsimp only
      rw [if_pos (decide_eq_true j1)]
      refine Ret.idx mf.1 (by omega) (Ret.idx j0 j1 (Ret.idx mg.1 (by omega) (Ret.ite (fun e => ?_) (fun e => ?_))))
      · have e : 0 ≤ cmp c (el (fsL p) i) (el (fsL p) j) := of_decide_eq_true e
        have he : el c.To (el (fsL p) i) = el c.From (el (fsL p) j) := by
          apply Decidable.byContradiction
          intro hne
          have := hs.no _ _ mf.1 (by omega) mg.1 (by omega) hne
          omega
        have y := hs.yes _ _ mf.1 (by omega) mg.1 (by omega) he
        rw [if_pos e] at hn2
        exact Ret.idx y.1 (show cmp c (el (fsL p) i) (el (fsL p) j) < _ by omega) (Ret.chk (by unfold lim; simp only [List.length_cons, List.length_nil]; omega) hn2)
      · have e : ¬ 0 ≤ cmp c (el (fsL p) i) (el (fsL p) j) := fun z => e (decide_eq_true z)
        rw [if_neg e] at hn2
        exact Ret.chk (by unfold lim; simp only [List.length_cons, List.length_nil]; omega) hn2
    · intro nx
      dsimp only
      rw [if_neg (by simp)]
      refine Ret.chk (by unfold lim; omega) (hn _ ?_)
      rw [take_succ_el i0 i1, List.map_append, List.map_append, List.map_append, wrap_in (by omega) (by omega)]; rfl
  · rintro s next rfl
    dsimp only
    rw [if_neg (by simp), show ((fsL p).length : Int).toNat = (fsL p).length by omega, List.take_length]
    refine Ret.some ?_
    unfold quoC thenL
    rw [li]

/-- The first arrows of the classes as they are found from the end on. -/
structure FstI (c : XCategory) (p : List Int) (i : Int) (F T S : List Int) : Prop where
  lF : (F.length : Int) = cnt p (p.length : Int)
  lT : (T.length : Int) = cnt p (p.length : Int)
  lS : (S.length : Int) = cnt p (p.length : Int)
  at_ : ∀ v, 0 ≤ v → v < cnt p (p.length : Int) → (∃ f, i < f ∧ f < (p.length : Int) ∧ el p f = v) → (i < el S v ∧ el S v < (p.length : Int)) ∧ el p (el S v) = v ∧ (∀ f, i < f → f < el S v → el p f ≠ v) ∧ el F v = el c.From (el S v) ∧ el T v = el c.To (el S v)

theorem el_ext {l m : List Int} (h : l.length = m.length) (e : ∀ i, 0 ≤ i → i < (l.length : Int) → el l i = el m i) : l = m := by
  rw [← tab_el l, ← tab_el m, h]
  apply tab_congr
  intro i i0 i1
  exact e i i0 (by omega)

theorem quotient_eq (h : Nor c p) : M.impl_Category_quotient c p = some (quoC c p) := by
  apply Ret.eq
  have hs := h.cat.1.shp
  have sp := h.sm
  have m40 := hs.m40
  have lt := hs.lto
  have lc := hs.lco
  have li := hs.lid
  have n8 := hs.n8
  have lp := h.len
  have hN := cnt_le (l := p) (i := (p.length : Int)) (by omega)
  have hcl : M.impl_partition_classes p = some (cnt p (p.length : Int)) := by
    have := classes_r sp
    rw [h.nor] at this
    exact this.eq
  have hrg : ∀ x, 0 ≤ x → x < (p.length : Int) → 0 ≤ el p x ∧ el p x < cnt p (p.length : Int) := fun x x0 x1 => by
    have e : el p x = cnt p (fi p x) := by
      have := nrm_el (l := p) x0 x1
      rwa [h.nor] at this
    have f := first_spec sp x0 x1
    have g0 := cnt_le (l := p) f.1.1
    have d := cnt_lt (l := p) (j := (p.length : Int)) f.1.1 (by omega) (ldr_first sp x0 x1)
    rw [e]
    exact ⟨g0.1, d⟩
  unfold M.impl_Category_quotient
  refine Ret.call hcl (Ret.chk ⟨hN.1, by unfold lim; omega⟩ (Ret.call (then2_eq (by unfold Small; omega) (idIn h)) ?_))
  have w0 : IntKind.i64.wrap ((p.length : Int) - 1) = (p.length : Int) - 1 := wrap_in (by omega) (by omega)
  rw [w0]
  refine Ret.loop (p.length : Int) (fun q s => s.2.2.2 = (p.length : Int) - 1 - q ∧ FstI c p ((p.length : Int) - 1 - q) s.1 s.2.1 s.2.2.1) (by omega) (by omega) ⟨by dsimp only; omega, ?_⟩ ?_ ?_
  · exact ⟨by rw [List.length_replicate]; omega, by rw [List.length_replicate]; omega, by rw [List.length_replicate]; omega, fun v v0 v1 ⟨f, f0, f1, _⟩ => by omega⟩
  · rintro q ⟨F, T, S, i⟩ next q0 q1 ⟨hi, hI⟩ hn
    dsimp only at hi hI ⊢
    rw [← hi] at hI
    have i0 : 0 ≤ i := by omega
    have i1 : i < (p.length : Int) := by omega
    have r := hrg i i0 i1
    have l1 := hI.lF
    have l2 := hI.lT
    have l3 := hI.lS
    rw [if_pos (decide_eq_true (by omega))]
    refine Ret.idx i0 i1 (Ret.idx r.1 (by omega) (Ret.idx i0 (by omega) (Ret.idx r.1 (by omega) (Ret.idx i0 (by omega) (Ret.idx r.1 (by omega) (hn _ ⟨?_, ?_⟩))))))
    · dsimp only
      rw [wrap_in (by omega) (by omega)]; omega
    · rw [show (p.length : Int) - 1 - (q + 1) = i - 1 by omega]
      refine ⟨by rw [List.length_set]; exact l1, by rw [List.length_set]; exact l2, by rw [List.length_set]; exact l3, fun v v0 v1 hex => ?_⟩
      dsimp only
      rw [el_set r.1 (by omega) v0, el_set r.1 (by omega) v0, el_set r.1 (by omega) v0]
      by_cases e : v = el p i
      · rw [if_pos e, if_pos e, if_pos e]
        exact ⟨⟨by omega, i1⟩, e.symm, fun f f0 f1 => by omega, rfl, rfl⟩
      · rw [if_neg e, if_neg e, if_neg e]
        obtain ⟨f, f0, f1, hf⟩ := hex
        have hne : f ≠ i := fun z => e (by rw [← hf, z])
        obtain ⟨a, b, d, x, y⟩ := hI.at_ v v0 v1 ⟨f, by omega, f1, hf⟩
        refine ⟨⟨by omega, a.2⟩, b, fun g g0 g1 hg => ?_, x, y⟩
        by_cases z : g = i
        · subst z; exact e hg.symm
        · exact d g (by omega) g1 hg
  · rintro ⟨F, T, S, i⟩ next ⟨hi, hI⟩
    dsimp only at hi hI ⊢
    rw [if_neg (by simp; omega)]
    rw [show (p.length : Int) - 1 - (p.length : Int) = -1 by omega] at hI
    have l1 := hI.lF
    have l2 := hI.lT
    have l3 := hI.lS
    have key : ∀ v, 0 ≤ v → v < cnt p (p.length : Int) → el S v = el (fsL p) v ∧ el F v = el c.From (el (fsL p) v) ∧ el T v = el c.To (el (fsL p) v) := by
      intro v v0 v1
      obtain ⟨k, ⟨k0, k1⟩, hk, hv⟩ := cnt_onto (p := p) (i := (p.length : Int)) (by omega) (by omega) v0 v1
      have ek : fi p k = k := by unfold ldr at hk; exact beq_iff_eq.1 hk
      have pk : el p k = v := by
        have := nrm_el (l := p) k0 k1
        rw [h.nor] at this
        rw [this]
        show cnt p (fi p k) = v
        rw [ek, hv]
      obtain ⟨a, b, d, x, y⟩ := hI.at_ v v0 v1 ⟨k, by omega, k1, pk⟩
      have e1 : el S v = k := by
        rcases Int.lt_trichotomy (el S v) k with z | z | z
        · exact absurd (b.trans pk.symm) ((ldr_iff sp k0 k1).1 hk _ (by omega) z)
        · exact z
        · exact absurd pk (d k (by omega) z)
      have e2 : el (fsL p) v = k := by
        rw [← hv]
        exact fil_el (ldr p) k0 k1 hk (by omega)
      rw [x, y, e1, e2]
      exact ⟨rfl, rfl, rfl⟩
    have eS : S = fsL p := el_ext (by have := fsL_len (p := p); omega) fun v v0 v1 => (key v v0 (by omega)).1
    have eF : F = (fsL p).map (el c.From) := el_ext (by rw [List.length_map]; have := fsL_len (p := p); omega) fun v v0 v1 => by
      rw [(key v v0 (by omega)).2.1, el_map v0 (by have := fsL_len (p := p); omega)]
    have eT : T = (fsL p).map (el c.To) := el_ext (by rw [List.length_map]; have := fsL_len (p := p); omega) fun v v0 v1 => by
      rw [(key v v0 (by omega)).2.2, el_map v0 (by have := fsL_len (p := p); omega)]
    subst eS eF eT
    have lf := fsL_le (p := p)
    have L1 : ((((fsL p).map (el c.From)).length : Nat) : Int) = ((fsL p).length : Int) := by rw [List.length_map]
    have htab := table_eq (c := ⟨c.Objects, (fsL p).map (el c.From), (fsL p).map (el c.To), thenL c.Identity p, []⟩) (g := fun x0 x1 => M.impl_Category_quotient_1 x0 x1 p c (fsL p)) (v := fun i j => el p (cmp c (el (fsL p) i) (el (fsL p) j)))
      (by dsimp only; rw [L1]; omega) (by dsimp only; rw [List.length_map, List.length_map]) (fun i j i0 i1 j0 j1 e => by
        dsimp only at i1 j1 e ⊢
        rw [L1] at i1 j1
        rw [el_map i0 i1, el_map j0 j1] at e
        have mf := fsL_mem.1 (el_mem (l := fsL p) i0 i1)
        have mg := fsL_mem.1 (el_mem (l := fsL p) j0 j1)
        have y := hs.yes _ _ mf.1 (by omega) mg.1 (by omega) e
        unfold M.impl_Category_quotient_1
        rw [idx_el i0 i1, Option.bind_some, idx_el j0 j1, Option.bind_some, then_in hs ⟨mf.1, by omega⟩ ⟨mg.1, by omega⟩, Option.bind_some, idx_el y.1 (by omega)]; rfl)
    refine Ret.call htab (Ret.some ?_)
    unfold quoC
    dsimp only
    congr 1
    rw [L1]
    have tm : ∀ {α : Type} (G : Int → α), (tab ((fsL p).length : Int) fun i => G (el (fsL p) i)) = (fsL p).map G := fun G => by
      conv => rhs; rw [← tab_el (fsL p)]
      unfold tab
      rw [List.map_map]; rfl
    rw [← tm fun f => (fsL p).map fun g => if 0 ≤ cmp c f g then el p (cmp c f g) else cmp c f g]
    apply tab_congr
    intro i i0 i1
    rw [← tm fun g => if 0 ≤ cmp c (el (fsL p) i) g then el p (cmp c (el (fsL p) i) g) else cmp c (el (fsL p) i) g]
    apply tab_congr
    intro j j0 j1
    have mf := fsL_mem.1 (el_mem (l := fsL p) i0 i1)
    have mg := fsL_mem.1 (el_mem (l := fsL p) j0 j1)
    rw [el_map i0 i1, el_map j0 j1]
    by_cases e : el c.To (el (fsL p) i) = el c.From (el (fsL p) j)
    · have y := hs.yes _ _ mf.1 (by omega) mg.1 (by omega) e
      rw [if_pos e, if_pos y.1]
    · have y := hs.no _ _ mf.1 (by omega) mg.1 (by omega) e
      rw [if_neg e, if_neg (by omega), y]
end

theorem QuotientFunctor_both {c : XCategory} {p : List Int} (sc : SmallC c) (sp : Small p) : ∃ r w, SmallF r ∧ M.spec_QuotientFunctor c p = some (r, w) ∧ M.impl_QuotientFunctor c p = some (r, w) := by
  by_cases h : IsCat c
  · have hs := h.1.shp
    have n0 := hs.n0
    have n8 := hs.n8
    by_cases q : (p.length : Int) = (c.From.length : Int) ∧ nrm p = p ∧ ParP c p ∧ CmpP c p
    · have hN : Nor c p := ⟨h, q.1, q.2.1⟩
      have sq := quoC_small hN
      have so : Small (tab c.Objects fun j => j) := by unfold Small; rw [tab_length]; omega
      refine ⟨⟨c, quoC c p, tab c.Objects fun j => j, p⟩, 0, ⟨sc, sq, so, sp⟩, ?_, ?_⟩
      · unfold M.spec_QuotientFunctor M.spec_QuotientCategory
        rw [l02Is_eq sc, decide_eq_true h, Option.bind_some, if_pos rfl, l03Congruence_eq h sp, decide_eq_true q, Option.bind_some, if_pos rfl, l03Quotient_eq hN, Option.bind_some, Option.bind_some, if_neg (by simp), l06Self_eq sc hs, Option.bind_some]
        show (M.spec_l06Make c (quoC c p) (tab c.Objects fun j => j) p).bind _ = _
        rw [l06Make_eq sc sq so sp]; rfl
      · unfold M.impl_QuotientFunctor M.impl_QuotientCategory
        rw [isCategory_eq sc, decide_eq_true h, Option.bind_some, if_pos rfl, isCongruence_eq h sp, decide_eq_true q, Option.bind_some, if_pos rfl, quotient_eq hN, Option.bind_some, Option.bind_some, if_neg (by simp), numbers_eq n0 (by omega), Option.bind_some, functor_eq sc sq so sp]; rfl
    · refine ⟨zeroF, 1, zeroF_small, ?_, ?_⟩
      · unfold M.spec_QuotientFunctor M.spec_QuotientCategory
        rw [l02Is_eq sc, decide_eq_true h, Option.bind_some, if_pos rfl, l03Congruence_eq h sp, decide_eq_false q]; rfl
      · unfold M.impl_QuotientFunctor M.impl_QuotientCategory
        rw [isCategory_eq sc, decide_eq_true h, Option.bind_some, if_pos rfl, isCongruence_eq h sp, decide_eq_false q]; rfl
  · refine ⟨zeroF, 1, zeroF_small, ?_, ?_⟩
    · unfold M.spec_QuotientFunctor M.spec_QuotientCategory
      rw [l02Is_eq sc, decide_eq_false h]; rfl
    · unfold M.impl_QuotientFunctor M.impl_QuotientCategory
      rw [isCategory_eq sc, decide_eq_false h]; rfl

theorem law_QuotientFunctor {a0 : XCategory} {a1 : List Int} (h0 : R.XCategory a0) (_ : AllL I64 a1) : M.laws_FnExactQuotientFunctor a0 a1 = some true := by
  unfold M.laws_FnExactQuotientFunctor
  by_cases z1 : (a1.length : Int) > 1048576
  · rw [if_pos (decide_eq_true z1)]
  · rw [if_neg (fun h => absurd (of_decide_eq_true h) z1)]
    have s1 : Small a1 := by unfold Small; omega
    obtain ⟨v0, e0, hv0⟩ := szCategory_r (n := 1048576) (by decide) (by decide) (fitsC h0)
    rw [e0, Option.bind_some]
    rcases hv0 with ⟨z0, _⟩ | ⟨l0, u0, s0⟩
    · rw [if_pos (decide_eq_true z0)]
    · rw [if_neg (fun h => absurd (of_decide_eq_true h) (by omega))]
      rw [toCategory_eq s0, Option.bind_some, toInt64S_eq s1, Option.bind_some]
      obtain ⟨g0, w, hg0, es, ei⟩ := QuotientFunctor_both s0 s1
      rw [es, ei]
      simp only [Option.bind_some]
      rw [eqFunctor_refl hg0, eqCategory_refl s0, eqInt64S_refl s1]
      obtain ⟨n0, x0, p0, q0, c0, d0, _⟩ := mh_C s0 1 (by omega) (by omega)
      obtain ⟨n1, x1, p1, q1, c1, d1, _⟩ := mh_S s1 (1 + n0) (by omega) (by omega)
      obtain ⟨n2, x2, p2, q2, c2, d2, _⟩ := mh_F hg0 1 (by omega) (by omega)
      simp only [Option.bind_some, bne_self_eq_false, Bool.false_eq_true, if_false, if_true, decide_eq_true_eq, c0, c1, c2, d2]
      rw [if_neg (by omega), if_neg (by omega)]

end Go.Gx
