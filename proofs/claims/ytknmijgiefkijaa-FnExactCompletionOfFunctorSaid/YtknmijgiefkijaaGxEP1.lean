/- Laid together: part 1. -/
import Derived.Test.YtknmijgiefkijaaGxEP0
import Derived.Test.YtknmijgiefkijaaGxEM0
/- Plain laws: products of categories. -/
namespace Go.Gx
open Classical
set_option maxHeartbeats 2000000

theorem mulb {i j n m : Int} (i0 : 0 ≤ i) (h : i < n) (h0 : 0 ≤ j) (h1 : j < m) : 0 ≤ i * m ∧ i * m + j < n * m ∧ i * m + m ≤ n * m := by
  have e1 : (i + 1) * m ≤ n * m := Int.mul_le_mul_of_nonneg_right (by omega) (by omega)
  rw [Int.add_mul, Int.one_mul] at e1
  have e2 := Int.mul_nonneg i0 (show 0 ≤ m by omega)
  omega
theorem mulB {n m N M : Int} (h0 : 0 ≤ n) (h1 : n ≤ N) (h2 : 0 ≤ m) (h3 : m ≤ M) : 0 ≤ n * m ∧ n * m ≤ N * M :=
  ⟨Int.mul_nonneg h0 h2, Int.mul_le_mul h1 h3 h2 (by omega)⟩
theorem parts {k n m : Int} (h0 : 0 ≤ k) (h1 : k < n * m) (hm : 0 ≤ m) : 0 < m ∧ 0 ≤ k / m ∧ k / m < n ∧ 0 ≤ k % m ∧ k % m < m := by
  have hm : 0 < m := by
    rcases Int.lt_or_eq_of_le hm with h | h
    · exact h
    · rw [← h, Int.mul_zero] at h1; omega
  exact ⟨hm, Int.ediv_nonneg h0 (by omega), Int.ediv_lt_of_lt_mul hm h1, Int.emod_nonneg _ (by omega), Int.emod_lt_of_pos _ hm⟩
/-- Two numbers as one, over all pairs. -/
abbrev tab2 {α : Type} (n m : Int) (f : Int → Int → α) : List α := tab (n * m) fun k => f (k / m) (k % m)
theorem tab_len' (n : Int) {α : Type} (f : Int → α) (h : 0 ≤ n) : ((tab n f).length : Int) = n := by rw [tab_length]; omega

end Go.Gx

/- Plain laws: the product as impl makes it; projections. -/
namespace Go.Gx
open Classical
set_option maxHeartbeats 2000000

theorem l02Fits_eq (c : XCategory) : M.spec_l02Fits c = some (decide (c.Objects ≤ 8) && decide ((c.From.length : Int) ≤ 40)) := by
  unfold M.spec_l02Fits
  by_cases h : c.Objects ≤ 8 <;> simp [h]

end Go.Gx

/- Plain laws: pairs of lists; products of functors. -/
namespace Go.Gx
open Classical
set_option maxHeartbeats 1000000

abbrev pairF (a b : List Int) (n : Int) (i j : Int) : Int := el a i * n + el b j
def pairL (a b : List Int) (n : Int) : List Int := tab2 (a.length : Int) (b.length : Int) (pairF a b n)
/-- Codes of pairs are small numbers. -/
structure PairOk (a b : List Int) (n A : Int) : Prop where
  hA : A ≤ 40
  hn : n ≤ 40
  la : (a.length : Int) ≤ 40
  lb : (b.length : Int) ≤ 40
  ia : In A a
  ib : In n b

theorem PairOk.len {a b : List Int} {n A : Int} (h : PairOk a b n A) {i j : Int} (i0 : 0 ≤ i) (i1 : i < (a.length : Int)) (j0 : 0 ≤ j) (j1 : j < (b.length : Int)) (F : Int → Int) :
    ((tab (i * (b.length : Int) + j) F).length : Int) ≤ 1600 := by
  have hb1 := mulb i0 i1 j0 j1
  have hB := mulB (n := (a.length : Int)) (m := (b.length : Int)) (N := 40) (M := 40) (by omega) h.la (by omega) h.lb
  rw [tab_len' _ _ (by omega)]; omega
theorem PairOk.small {a b : List Int} {n A : Int} (h : PairOk a b n A) : Small (pairL a b n) := by
  have hB := mulB (n := (a.length : Int)) (m := (b.length : Int)) (N := 40) (M := 40) (by omega) h.la (by omega) h.lb
  unfold Small pairL; rw [tab_len' _ _ hB.1]; omega

end Go.Gx

/- The law of InverseFunctor. -/
namespace Go.Gx
open Classical
set_option maxHeartbeats 1000000

end Go.Gx

/- Plain laws: places in lists; full parts of a category. -/
namespace Go.Gx
open Classical
set_option maxHeartbeats 1000000

/-! ### places -/
/-! ### full parts -/
noncomputable def fullL (c : XCategory) (o : List Int) : List Int := fil (c.From.length : Int) fun f => decide (el c.From f ∈ o) && decide (el c.To f ∈ o)
theorem fullL_mem {c : XCategory} {o : List Int} {f : Int} : f ∈ fullL c o ↔ 0 ≤ f ∧ f < (c.From.length : Int) ∧ el c.From f ∈ o ∧ el c.To f ∈ o := by
  unfold fullL
  rw [fil_mem, Bool.and_eq_true, decide_eq_true_iff, decide_eq_true_iff]
/-- A choice of objects: those that pass. -/
structure Pick (c : XCategory) (o : List Int) : Prop where
  s : Shp c
  e : o = fil c.Objects fun x => decide (x ∈ o)
theorem Pick.nodup {c : XCategory} {o : List Int} (h : Pick c o) : o.Nodup := by rw [h.e]; exact fil_nodup _ _
theorem Pick.len {c : XCategory} {o : List Int} (h : Pick c o) : (o.length : Int) ≤ c.Objects := by
  have h1 := fil_length_le c.Objects fun x => decide (x ∈ o)
  have n0 := h.s.n0
  have := congrArg List.length h.e
  omega
theorem Pick.id {c : XCategory} {o : List Int} (h : Pick c o) {x : Int} (x0 : 0 ≤ x) (x1 : x < c.Objects) : el c.Identity x ∈ fullL c o ↔ x ∈ o := by
  have i := h.s.id_in x x0 x1
  rw [fullL_mem, h.s.id_from x x0 x1, h.s.id_to x x0 x1]
  exact ⟨fun y => y.2.2.1, fun y => ⟨i.1, i.2, y, y⟩⟩
theorem el_map {α β : Type} [Inhabited α] [Inhabited β] {l : List α} {F : α → β} {i : Int} (i0 : 0 ≤ i) (i1 : i < (l.length : Int)) : el (l.map F) i = F (el l i) := by
  have e1 : idx (l.map F) i = some (el (l.map F) i) := idx_el i0 (by rw [List.length_map]; exact i1)
  have e2 : idx l i = some (el l i) := idx_el i0 i1
  have h1 := (idx_some e1).2.2
  have h2 := (idx_some e2).2.2
  rw [List.getElem?_map, h2] at h1
  exact (Option.some.inj h1).symm

theorem Pick.comp {c : XCategory} {o : List Int} (h : Pick c o) {f g : Int} (hf : f ∈ fullL c o) (hg : g ∈ fullL c o) (e : el c.To f = el c.From g) : cmp c f g ∈ fullL c o := by
  have mf := fullL_mem.1 hf
  have mg := fullL_mem.1 hg
  have y := h.s.yes f g mf.1 mf.2.1 mg.1 mg.2.1 e
  rw [fullL_mem, h.s.cfrom f g mf.1 mf.2.1 mg.1 mg.2.1 e, h.s.cto f g mf.1 mf.2.1 mg.1 mg.2.1 e]
  exact ⟨y.1, y.2, mf.2.2.1, mg.2.2.2⟩

end Go.Gx

/- Plain laws: labels and their classes; elements that are joined. -/
namespace Go.Gx
open Classical
set_option maxHeartbeats 1000000

/-! ### the least equivalence -/
inductive Eqv (P : Int → Int → Prop) : Int → Int → Prop
  | of {x y : Int} : P x y → Eqv P x y
  | refl (x : Int) : Eqv P x x
  | symm {x y : Int} : Eqv P x y → Eqv P y x
  | trans {x y z : Int} : Eqv P x y → Eqv P y z → Eqv P x z

theorem Eqv.mono {P Q : Int → Int → Prop} (h : ∀ x y, P x y → Eqv Q x y) {x y : Int} (e : Eqv P x y) : Eqv Q x y := by
  induction e with
  | of p => exact h _ _ p
  | refl x => exact .refl x
  | symm _ ih => exact .symm ih
  | trans _ _ ih1 ih2 => exact .trans ih1 ih2
theorem Eqv.congr {P Q : Int → Int → Prop} (h : ∀ x y, P x y → Eqv Q x y) (h' : ∀ x y, Q x y → Eqv P x y) {x y : Int} : Eqv P x y ↔ Eqv Q x y := ⟨Eqv.mono h, Eqv.mono h'⟩
/-- An equivalence that holds where P does. -/
theorem Eqv.into {P : Int → Int → Prop} {f : Int → Int} (h : ∀ x y, P x y → f x = f y) {x y : Int} (e : Eqv P x y) : f x = f y := by
  induction e with
  | of p => exact h _ _ p
  | refl x => rfl
  | symm _ ih => exact ih.symm
  | trans _ _ ih1 ih2 => exact ih1.trans ih2
theorem Eqv.add {P : Int → Int → Prop} {p q i j : Int} : Eqv (fun x y => P x y ∨ (x = p ∧ y = q)) i j ↔ Eqv P i j ∨ (Eqv P i p ∧ Eqv P q j) ∨ (Eqv P i q ∧ Eqv P p j) := by
  constructor
  · intro e
    induction e with
    | of h =>
      rcases h with h | ⟨rfl, rfl⟩
      · exact .inl (.of h)
      · exact .inr (.inl ⟨.refl _, .refl _⟩)
    | refl x => exact .inl (.refl x)
    | symm _ ih =>
      rcases ih with h | ⟨h, k⟩ | ⟨h, k⟩
      · exact .inl h.symm
      · exact .inr (.inr ⟨k.symm, h.symm⟩)
      · exact .inr (.inl ⟨k.symm, h.symm⟩)
    | trans _ _ ih1 ih2 =>
      rcases ih1 with h | ⟨h, k⟩ | ⟨h, k⟩
      · rcases ih2 with h' | ⟨h', k'⟩ | ⟨h', k'⟩
        · exact .inl (h.trans h')
        · exact .inr (.inl ⟨h.trans h', k'⟩)
        · exact .inr (.inr ⟨h.trans h', k'⟩)
      · rcases ih2 with h' | ⟨h', k'⟩ | ⟨h', k'⟩
        · exact .inr (.inl ⟨h, k.trans h'⟩)
        · exact .inr (.inl ⟨h, k'⟩)
        · exact .inl (h.trans k')
      · rcases ih2 with h' | ⟨h', k'⟩ | ⟨h', k'⟩
        · exact .inr (.inr ⟨h, k.trans h'⟩)
        · exact .inl (h.trans k')
        · exact .inr (.inr ⟨h, k'⟩)
  · have up : ∀ {a b}, Eqv P a b → Eqv (fun x y => P x y ∨ (x = p ∧ y = q)) a b := fun h => Eqv.mono (fun x y z => .of (.inl z)) h
    have pq : Eqv (fun x y => P x y ∨ (x = p ∧ y = q)) p q := .of (.inr ⟨rfl, rfl⟩)
    rintro (h | ⟨h, k⟩ | ⟨h, k⟩)
    · exact up h
    · exact (up h).trans (pq.trans (up k))
    · exact (up h).trans (pq.symm.trans (up k))

/-- f tells R apart on 0 .. n - 1. -/
def Ker (n : Int) (f : Int → Int) (R : Int → Int → Prop) : Prop := ∀ i j, 0 ≤ i → i < n → 0 ≤ j → j < n → (f i = f j ↔ R i j)

theorem Ker.congr {n : Int} {f : Int → Int} {R S : Int → Int → Prop} (h : Ker n f R) (e : ∀ i j, R i j ↔ S i j) : Ker n f S := fun i j i0 i1 j0 j1 => (h i j i0 i1 j0 j1).trans (e i j)
theorem Ker.none {n : Int} {f : Int → Int} (h : ∀ i j, 0 ≤ i → i < n → 0 ≤ j → j < n → f i = f j → i = j) : Ker n f (Eqv fun _ _ => False) := by
  intro i j i0 i1 j0 j1
  constructor
  · intro e; rw [h i j i0 i1 j0 j1 e]; exact .refl _
  · intro e; exact congrArg f (Eqv.into (f := fun x => x) (fun _ _ h => h.elim) e)
/-! ### labels numbered in the order in which they come -/
theorem least {p : Int → Prop} : ∀ (k : Nat), p (k : Int) → ∃ i : Int, 0 ≤ i ∧ i ≤ (k : Int) ∧ p i ∧ ∀ j, 0 ≤ j → j < i → ¬ p j := by
  intro k
  induction k using Nat.strongRecOn with
  | ind k ih =>
    intro hk
    by_cases h : ∃ j : Nat, j < k ∧ p (j : Int)
    · obtain ⟨j, hj, pj⟩ := h
      obtain ⟨i, i0, i1, pi, hi⟩ := ih j hj pj
      exact ⟨i, i0, by omega, pi, hi⟩
    · refine ⟨(k : Int), by omega, by omega, hk, fun j j0 j1 pj => h ⟨j.toNat, by omega, ?_⟩⟩
      rwa [show ((j.toNat : Nat) : Int) = j by omega]

section
variable {l : List Int}
end

/-! ### a forest whose roots are the least of their classes -/
structure UF (j : List Int) (ρ : Int → Int) : Prop where
  up : ∀ x, 0 ≤ x → x < (j.length : Int) → 0 ≤ el j x ∧ el j x ≤ x
  st : ∀ x, 0 ≤ x → x < (j.length : Int) → ρ (el j x) = ρ x
  fx : ∀ x, 0 ≤ x → x < (j.length : Int) → el j x = x → ρ x = x
  lo : ∀ x, 0 ≤ x → x < (j.length : Int) → 0 ≤ ρ x ∧ ρ x ≤ x
  ix : ∀ x, 0 ≤ x → x < (j.length : Int) → ρ (ρ x) = ρ x

section
variable {j : List Int} {ρ : Int → Int}
theorem UF.start (n : Int) : UF (tab n fun x => x) (fun x => x) := by
  refine ⟨?_, ?_, ?_, ?_, ?_⟩ <;> intro x x0 x1 <;> (try rw [tab_length] at x1) <;> (try rw [el_tab x0 (by omega)]) <;> try omega
end
end Go.Gx

/- The law of CompletionFunctor. -/
namespace Go.Gx
open Classical
set_option maxHeartbeats 1000000

instance : Inhabited X3_int64 := ⟨⟨0, 0, 0⟩⟩
def toL (x : X3_int64) : List Int := [x.E0, x.E1, x.E2]
theorem toL_inj {x : X3_int64} {a b c : Int} : toL x = [a, b, c] ↔ x = ⟨a, b, c⟩ := by
  obtain ⟨p, q, r⟩ := x
  simp [toL]

/-! ### where a triple stands -/
noncomputable def fnd (A : List X3_int64) (x : X3_int64) : Int := (M.slices_Index_3_int64_3_int64 A x).getD (-1)
theorem eq3 {x y : X3_int64} : (((x.E0 == y.E0) && ((x.E1 == y.E1) && (x.E2 == y.E2))) == true) = decide (y = x) := by
  obtain ⟨p, q, r⟩ := x
  obtain ⟨p', q', r'⟩ := y
  rw [Bool.eq_iff_iff]
  simp only [beq_iff_eq, Bool.and_eq_true, decide_eq_true_iff, X3_int64.mk.injEq]
  constructor <;> rintro ⟨rfl, rfl, rfl⟩ <;> exact ⟨rfl, rfl, rfl⟩
section
variable {A : List X3_int64} {x : X3_int64}
theorem index3_eq (h : Small A) : M.slices_Index_3_int64_3_int64 A x = some (fnd A x) := by
  have h1 : Ret (M.slices_Index_3_int64_3_int64 A x) fun _ => True := by
    unfold M.slices_Index_3_int64_3_int64
    refine Ret.all (A.length : Int) (fun _ => True) (by omega) (by unfold Small at h; omega) ?_ ?_
    · intro i next hi0 hi1 hp hn1
      rw [if_pos (decide_eq_true hi1)]
      exact Ret.idx hi0 hi1 (Ret.ite (fun _ => Ret.some trivial) (fun _ => hn1 trivial))
    · intro next hp
      rw [if_neg (by simp)]
      exact Ret.some trivial
  obtain ⟨r, e, _⟩ := h1
  unfold fnd
  rw [e]; rfl
theorem fnd_at (h : Small A) {i : Int} (i0 : 0 ≤ i) (i1 : i < (A.length : Int)) (hi : el A i = x) (hn : ∀ j, 0 ≤ j → j < i → el A j ≠ x) : fnd A x = i := by
  have h1 : Ret (M.slices_Index_3_int64_3_int64 A x) fun r => r = i := by
    unfold M.slices_Index_3_int64_3_int64
    refine Ret.all (A.length : Int) (fun j => el A j ≠ x) (by omega) (by unfold Small at h; omega) ?_ ?_
    · intro j next j0 j1 hp hn1
      rw [if_pos (decide_eq_true j1)]
      refine Ret.idx j0 j1 ?_
      rw [eq3]
      refine Ret.ite (fun e => Ret.some ?_) (fun e => hn1 fun z => e (decide_eq_true z))
      have e := of_decide_eq_true e
      by_cases l : j < i
      · exact absurd e (hn j j0 l)
      · by_cases l2 : i < j
        · exact absurd hi (hp i i0 l2)
        · omega
    · intro next hp
      exact absurd hi (hp i i0 i1)
  have e := Ret.eq h1
  unfold fnd; rw [e]; rfl
theorem fnd_no (h : Small A) (hn : ∀ j, 0 ≤ j → j < (A.length : Int) → el A j ≠ x) : fnd A x = -1 := by
  have h1 : Ret (M.slices_Index_3_int64_3_int64 A x) fun r => r = -1 := by
    unfold M.slices_Index_3_int64_3_int64
    refine Ret.all (A.length : Int) (fun _ => True) (by omega) (by unfold Small at h; omega) ?_ ?_
    · intro j next j0 j1 hp hn1
      rw [if_pos (decide_eq_true j1)]
      refine Ret.idx j0 j1 ?_
      rw [eq3, if_neg fun z => hn j j0 j1 (of_decide_eq_true z)]
      exact hn1 trivial
    · intro next hp
      rw [if_neg (by simp)]
      exact Ret.some rfl
  have e := Ret.eq h1
  unfold fnd; rw [e]; rfl
theorem el_toL {i : Int} (i0 : 0 ≤ i) (i1 : i < (A.length : Int)) : el (A.map toL) i = toL (el A i) := el_map i0 i1
theorem l09Find_eq (h : Small A) (a b c : Int) : M.spec_l09Find (A.map toL) [a, b, c] = some (fnd A ⟨a, b, c⟩) := by
  apply Ret.eq
  unfold Small at h
  unfold M.spec_l09Find
  have L : ((A.map toL).length : Int) = (A.length : Int) := by rw [List.length_map]
  rw [L]
  refine Ret.all (A.length : Int) (fun j => el A j ≠ ⟨a, b, c⟩) (by omega) (by omega) ?_ ?_
  · intro j next j0 j1 hp hn1
    rw [if_pos (decide_eq_true j1)]
    refine Ret.idx j0 (by omega) ?_
    rw [el_toL j0 j1]
    refine Ret.call (l01Same_eq (by simp [toL]) (by simp)) (Ret.ite (fun e => Ret.some ?_) (fun e => hn1 fun z => e (decide_eq_true (toL_inj.2 z))))
    exact (fnd_at h j0 j1 (toL_inj.1 (of_decide_eq_true e)) hp).symm
  · intro next hp
    rw [if_neg (by simp)]
    exact Ret.some (fnd_no h hp).symm
theorem arrow_eq (h : Small A) (a b c : Int) : M.impl_completion_arrow (⟨(), (), (), (), (), (), A⟩ : Xcompletion_q) a b c = some (fnd A ⟨a, b, c⟩) := by
  unfold M.impl_completion_arrow M.impl_index_3_int64
  rw [index3_eq h]; rfl
theorem column_eq (h : Small A) {k : Int} {f : X3_int64 → Int} (k0 : 0 ≤ k) (k3 : k < 3) (hf : ∀ y, el (toL y) k = f y) : M.spec_l09Column (A.map toL) k = some (A.map f) := by
  apply Ret.eq
  unfold Small at h
  unfold M.spec_l09Column
  have L : ((A.map toL).length : Int) = (A.length : Int) := by rw [List.length_map]
  rw [L]
  refine Ret.acc (A.length : Int) (fun i s => s = (A.take i.toNat).map f) (by omega) (by omega) rfl ?_ ?_
  · rintro i s next i0 i1 rfl hn
    dsimp only
    rw [if_pos (decide_eq_true i1)]
    refine Ret.idx i0 (by omega) ?_
    rw [el_toL i0 i1]
    refine Ret.idx k0 (by simp [toL]; omega) ?_
    rw [hf]
    refine Ret.chk ?_ (hn _ ?_)
    · unfold lim; simp only [List.length_map, List.length_take, List.length_cons, List.length_nil]; omega
    · rw [take_succ_el i0 i1, List.map_append]; rfl
  · rintro s next rfl
    dsimp only
    rw [if_neg (by simp), show ((A.length : Int)).toNat = A.length by omega, List.take_length]
    exact Ret.some rfl
end

/-! ### idempotents and the arrows between them -/
noncomputable def idem (c : XCategory) : List Int := fil (c.From.length : Int) fun e => decide (el c.From e = el c.To e) && decide (cmp c e e = e)
theorem idem_len {c : XCategory} (h : Shp c) : ((idem c).length : Int) ≤ 40 := by
  have := fil_length_le (c.From.length : Int) fun e => decide (el c.From e = el c.To e) && decide (cmp c e e = e)
  have := h.m40
  unfold idem; omega
theorem idem_ar {c : XCategory} {e : Int} (h : e ∈ idem c) : Ar c e (el c.From e) (el c.From e) := by
  have := fil_mem.1 h
  simp only [Bool.and_eq_true, decide_eq_true_eq] at this
  exact ⟨this.1, this.2.1, rfl, this.2.2.1.symm⟩

theorem l11Idempotents_eq {c : XCategory} (h : Shp c) : M.spec_l11Idempotents c = some (idem c) := by
  apply Ret.eq
  have m40 := h.m40
  have lto := h.lto
  unfold M.spec_l11Idempotents
  refine Ret.acc (c.From.length : Int) (fun i s => s = fil i fun e => decide (el c.From e = el c.To e) && decide (cmp c e e = e)) (by omega) (by omega) rfl ?_ ?_
  · rintro i s next i0 i1 rfl hn
    have L := fil_length_le i fun e => decide (el c.From e = el c.To e) && decide (cmp c e e = e)
    dsimp only
    rw [if_pos (decide_eq_true i1)]
    refine Ret.idx i0 i1 (Ret.idx i0 (by omega) (Ret.ite (fun q => Ret.call (l02Then_in h ⟨i0, i1⟩ ⟨i0, i1⟩) (Ret.ite (fun q2 => Ret.chk (by unfold lim; simp only [List.length_cons, List.length_nil]; omega) (hn _ ?_)) (fun q2 => hn _ ?_))) (fun q => hn _ ?_)))
    · rw [fil_succ _ i0, if_pos (by rw [decide_eq_true (beq_iff_eq.1 q), decide_eq_true (beq_iff_eq.1 q2)]; rfl)]
    · rw [fil_succ _ i0, if_neg (by rw [decide_eq_false fun z => q2 (beq_iff_eq.2 z), Bool.and_false]; decide), List.append_nil]
    · rw [fil_succ _ i0, if_neg (by rw [decide_eq_false fun z => q (beq_iff_eq.2 z), Bool.false_and]; decide), List.append_nil]
  · rintro s next rfl
    dsimp only
    rw [if_neg (by simp)]
    exact Ret.some rfl

theorem idempotents_eq {c : XCategory} (h : Shp c) : M.impl_Category_idempotents c = some (idem c) := by
  apply Ret.eq
  have m40 := h.m40
  have lco := h.lco
  unfold M.impl_Category_idempotents
  refine Ret.acc (c.From.length : Int) (fun i s => s = fil i fun e => decide (el c.From e = el c.To e) && decide (cmp c e e = e)) (by omega) (by omega) rfl ?_ ?_
  · rintro i s next i0 i1 rfl hn
    have L := fil_length_le i fun e => decide (el c.From e = el c.To e) && decide (cmp c e e = e)
    have row := h.row i i0 i1
    dsimp only
    rw [if_pos (decide_eq_true i1)]
    refine Ret.idx i0 (by omega) (Ret.idx i0 (by omega) (Ret.ite (fun q => Ret.chk (by unfold lim; simp only [List.length_cons, List.length_nil]; omega) (hn _ ?_)) (fun q => hn _ ?_)))
    · have q : cmp c i i = i := beq_iff_eq.1 q
      have e : el c.From i = el c.To i := Decidable.byContradiction fun z => by
        have := h.no i i i0 i1 i0 i1 fun w => z w.symm
        omega
      rw [fil_succ _ i0, if_pos (by rw [decide_eq_true e, decide_eq_true q]; rfl)]
    · rw [fil_succ _ i0, if_neg (by rw [decide_eq_false (p := cmp c i i = i) fun z => q (beq_iff_eq.2 z), Bool.and_false]; decide), List.append_nil]
  · rintro s next rfl
    dsimp only
    rw [if_neg (by simp)]
    exact Ret.some rfl

/-- The arrows from idempotent i to idempotent j. -/
noncomputable def good (c : XCategory) (i j f : Int) : Bool := decide (cmp c (cmp c (el (idem c) i) f) (el (idem c) j) = f)
noncomputable def homs (c : XCategory) (i j : Int) : List Int := homL c (el c.From (el (idem c) i)) (el c.From (el (idem c) j))
noncomputable def seg (c : XCategory) (i j : Int) : List X3_int64 := ((homs c i j).filter (good c i j)).map fun f => ⟨i, j, f⟩
noncomputable def rowJ (c : XCategory) (i n : Int) : List X3_int64 := (tab n (seg c i)).flatten
noncomputable def rows (c : XCategory) (n : Int) : List X3_int64 := (tab n fun i => rowJ c i ((idem c).length : Int)).flatten
noncomputable def arr (c : XCategory) : List X3_int64 := rows c ((idem c).length : Int)

theorem flatten_len {α : Type} {k : Int} {f : Int → List α} {b : Int} (hk : ∀ i, ((f i).length : Int) ≤ b) (k0 : 0 ≤ k) : (((tab k f).flatten).length : Int) ≤ k * b := by
  obtain ⟨n, rfl⟩ : ∃ n : Nat, k = n := ⟨k.toNat, by omega⟩
  induction n with
  | zero => simp
  | succ n ih =>
    have ih := ih (by omega)
    have h := hk (n : Int)
    push_cast
    rw [tab_succ _ (by omega), List.flatten_append, List.length_append, Int.add_mul]
    simp only [List.flatten_cons, List.flatten_nil, List.append_nil]
    push_cast
    omega
theorem flatten_succ {α : Type} {k : Int} (f : Int → List α) (k0 : 0 ≤ k) : (tab (k + 1) f).flatten = (tab k f).flatten ++ f k := by
  rw [tab_succ _ k0, List.flatten_append]; simp
section
variable {c : XCategory}
theorem seg_len (h : Shp c) (i j : Int) : ((seg c i j).length : Int) ≤ 40 := by
  have a := homL_len h (el c.From (el (idem c) i)) (el c.From (el (idem c) j))
  have b := List.length_filter_le (good c i j) (homs c i j)
  unfold seg
  rw [List.length_map]
  unfold homs at *
  omega
theorem rowJ_len (h : Shp c) (i : Int) {n : Int} (n0 : 0 ≤ n) (n1 : n ≤ 40) : ((rowJ c i n).length : Int) ≤ 1600 := by
  have a := flatten_len (seg_len h i) n0
  unfold rowJ; omega
theorem rows_len (h : Shp c) {n : Int} (n0 : 0 ≤ n) (n1 : n ≤ 40) : ((rows c n).length : Int) ≤ 64000 := by
  have a := flatten_len (b := 1600) (fun i => rowJ_len h i (n := ((idem c).length : Int)) (by omega) (idem_len h)) n0
  unfold rows; omega
theorem arr_len (h : Shp c) : ((arr c).length : Int) ≤ 64000 := rows_len h (by omega) (idem_len h)
theorem arr_small (h : Shp c) : Small (arr c) := by have := arr_len h; unfold Small; omega
theorem arr_at {x : X3_int64} (hx : x ∈ arr c) : (0 ≤ x.E0 ∧ x.E0 < ((idem c).length : Int)) ∧ (0 ≤ x.E1 ∧ x.E1 < ((idem c).length : Int)) ∧ 0 ≤ x.E2 ∧ x.E2 < (c.From.length : Int) := by
  unfold arr rows at hx
  obtain ⟨l, hl, hx⟩ := List.mem_flatten.1 hx
  unfold tab at hl
  obtain ⟨i, hi, rfl⟩ := List.mem_map.1 hl
  unfold rowJ at hx
  obtain ⟨l, hl, hx⟩ := List.mem_flatten.1 hx
  unfold tab at hl
  obtain ⟨j, hj, rfl⟩ := List.mem_map.1 hl
  unfold seg at hx
  obtain ⟨f, hf, rfl⟩ := List.mem_map.1 hx
  have a := hom_ar (List.mem_filter.1 hf).1
  have := List.mem_range.1 hi
  have := List.mem_range.1 hj
  exact ⟨⟨by dsimp only; omega, by dsimp only; omega⟩, ⟨by dsimp only; omega, by dsimp only; omega⟩, a.p, a.q⟩
/-- The list of arrows after k of the maps from i to j. -/
noncomputable def upto (c : XCategory) (i j k : Int) : List X3_int64 := rows c i ++ rowJ c i j ++ (((homs c i j).take k.toNat).filter (good c i j)).map fun f => ⟨i, j, f⟩
theorem upto_zero (i j : Int) : upto c i j 0 = rows c i ++ rowJ c i j := by unfold upto; simp
theorem upto_all {i j : Int} (j0 : 0 ≤ j) : upto c i j ((homs c i j).length : Int) = rows c i ++ rowJ c i (j + 1) := by
  unfold upto rowJ
  rw [flatten_succ _ j0, show (((homs c i j).length : Int)).toNat = (homs c i j).length by omega, List.take_length, List.append_assoc]
  rfl
theorem upto_yes {i j k : Int} (k0 : 0 ≤ k) (k1 : k < ((homs c i j).length : Int)) (h : good c i j (el (homs c i j) k) = true) : upto c i j (k + 1) = upto c i j k ++ [⟨i, j, el (homs c i j) k⟩] := by
  unfold upto
  rw [take_succ_el k0 k1, List.filter_append, List.map_append, List.filter_cons, if_pos h, List.append_assoc]
  simp
theorem upto_no {i j k : Int} (k0 : 0 ≤ k) (k1 : k < ((homs c i j).length : Int)) (h : ¬ good c i j (el (homs c i j) k) = true) : upto c i j (k + 1) = upto c i j k := by
  unfold upto
  rw [take_succ_el k0 k1, List.filter_append, List.map_append, List.filter_cons, if_neg h]
  simp
theorem rows_succ {i : Int} (i0 : 0 ≤ i) : rows c (i + 1) = rows c i ++ rowJ c i ((idem c).length : Int) := by
  unfold rows
  rw [flatten_succ _ i0]
theorem upto_len (h : Shp c) {i j k : Int} (i0 : 0 ≤ i) (i1 : i < ((idem c).length : Int)) (j0 : 0 ≤ j) (j1 : j < ((idem c).length : Int)) : ((upto c i j k).length : Int) ≤ 66000 := by
  have e := idem_len h
  have a := rows_len h i0 (by omega)
  have b := rowJ_len h i j0 (by omega)
  have d := homL_len h (el c.From (el (idem c) i)) (el c.From (el (idem c) j))
  have f := List.length_filter_le (good c i j) ((homs c i j).take k.toNat)
  have g : ((homs c i j).take k.toNat).length ≤ (homs c i j).length := by rw [List.length_take]; omega
  unfold upto
  rw [List.length_append, List.length_append, List.length_map]
  unfold homs at *
  omega

/-- The loops of impl that list the arrows. -/
theorem arrows_r (h : Shp c) {ρ : Type} {Q : ρ → Prop} {fin : List X3_int64 × Int → Option ρ} (hfin : Ret (fin (arr c, ((idem c).length : Int))) Q) :
    Ret (iter (fun (s3 : (List X3_int64) × Int) next4 =>
      if decide (s3.2 < ((idem c).length : Int)) then
        (idx (idem c) s3.2).bind fun y8 =>
        iter (fun (s9 : (List X3_int64) × Int) next10 =>
          if decide (s9.2 < ((idem c).length : Int)) then
            (idx (idem c) s9.2).bind fun y14 =>
            (idx c.From y8).bind fun y15 =>
            (idx c.From y14).bind fun y16 =>
            (M.impl_Category_hom c y15 y16).bind fun v17 =>
            iter (fun (s18 : (List X3_int64) × Int) next19 =>
              if decide (s18.2 < (v17.length : Int)) then
                (idx v17 s18.2).bind fun y23 =>
                (M.impl_Category_then c y8 y23).bind fun v24 =>
                (M.impl_Category_then c v24 y14).bind fun v25 =>
                if v25 == y23 then
                  chk (s18.1.length + (([(⟨s3.2, s9.2, y23⟩ : X3_int64)] : List X3_int64).length) ≤ lim) (
                    next19 (s18.1 ++ ([(⟨s3.2, s9.2, y23⟩ : X3_int64)] : List X3_int64), IntKind.i64.wrap (s18.2 + 1)))
                else
                  next19 (s18.1, IntKind.i64.wrap (s18.2 + 1))
              else
                next10 (s18.1, IntKind.i64.wrap (s9.2 + 1))) fuel (s9.1, 0)
          else
            next4 (s9.1, IntKind.i64.wrap (s3.2 + 1))) fuel (s3.1, 0)
      else
        fin s3) fuel (([] : List X3_int64), 0)) Q := by
  have e40 := idem_len h
  refine Ret.acc ((idem c).length : Int) (fun i s => s = rows c i) (by omega) (by omega) rfl ?_ ?_
  · rintro i s next i0 i1 rfl hn
    have ai := idem_ar (el_mem i0 i1)
    dsimp only
    rw [if_pos (decide_eq_true i1)]
    refine Ret.idx i0 i1 ?_
    refine Ret.acc ((idem c).length : Int) (fun j s => s = rows c i ++ rowJ c i j) (by omega) (by omega) (by unfold rowJ; simp) ?_ ?_
    · rintro j s nx j0 j1 rfl hn2
      have aj := idem_ar (el_mem j0 j1)
      have hl := homL_len h (el c.From (el (idem c) i)) (el c.From (el (idem c) j))
      dsimp only
      rw [if_pos (decide_eq_true j1)]
      refine Ret.idx j0 j1 (Ret.idx ai.p ai.q (Ret.idx aj.p aj.q (Ret.call (show M.impl_Category_hom c _ _ = some (homs c i j) from hom_eq h _ _) ?_)))
      refine Ret.acc ((homs c i j).length : Int) (fun k s => s = upto c i j k) (by omega) (by unfold homs; omega) (upto_zero i j).symm ?_ ?_
      · rintro k s nx2 k0 k1 rfl hn3
        have ak := hom_ar (show el (homs c i j) k ∈ homL c (el c.From (el (idem c) i)) (el c.From (el (idem c) j)) from el_mem k0 k1)
        have ac := ai.comp h ak
        have L := upto_len h i0 i1 j0 j1 (k := k)
        dsimp only
        rw [if_pos (decide_eq_true k1)]
        refine Ret.idx k0 k1 (Ret.call (ai.ti h ak) (Ret.call (ac.ti h aj) (Ret.ite (fun q => Ret.chk ?_ (hn3 _ ?_)) (fun q => hn3 _ ?_))))
        · unfold lim; simp only [List.length_cons, List.length_nil]; omega
        · exact (upto_yes k0 k1 (decide_eq_true (beq_iff_eq.1 q))).symm
        · exact (upto_no k0 k1 fun z => q (beq_iff_eq.2 (of_decide_eq_true z))).symm
      · rintro s nx2 rfl
        dsimp only
        rw [if_neg (by simp)]
        exact hn2 _ (upto_all j0)
    · rintro s nx rfl
      dsimp only
      rw [if_neg (by simp)]
      exact hn _ (rows_succ i0).symm
  · rintro s next rfl
    dsimp only
    rw [if_neg (by simp)]
    exact hfin

theorem map_snoc {A : List X3_int64} {i j f : Int} : A.map toL ++ [[i, j, f]] = (A ++ [(⟨i, j, f⟩ : X3_int64)]).map toL := by rw [List.map_append]; rfl
/-- The loops of spec that list the arrows. -/
theorem rows_r (h : Shp c) {ρ : Type} {Q : ρ → Prop} {fin : List (List Int) × Int → Option ρ} (hfin : Ret (fin ((arr c).map toL, ((idem c).length : Int))) Q) :
    Ret (iter (fun (s2 : (List (List Int)) × Int) next3 =>
      if decide (s2.2 < ((idem c).length : Int)) then
        iter (fun (s7 : (List (List Int)) × Int) next8 =>
          if decide (s7.2 < ((idem c).length : Int)) then
            (idx (idem c) s2.2).bind fun y12 =>
            (idx c.From y12).bind fun y13 =>
            (idx (idem c) s7.2).bind fun y14 =>
            (idx c.From y14).bind fun y15 =>
            (M.spec_l02Hom c y13 y15).bind fun v16 =>
            iter (fun (s17 : (List (List Int)) × Int) next18 =>
              if decide (s17.2 < (v16.length : Int)) then
                (idx v16 s17.2).bind fun y22 =>
                (M.spec_l02Then c y12 y22).bind fun v23 =>
                (M.spec_l02Then c v23 y14).bind fun v24 =>
                if v24 == y22 then
                  chk (s17.1.length + 1 ≤ lim) (
                    next18 (s17.1 ++ [[s2.2, s7.2, y22]], IntKind.i64.wrap (s17.2 + 1)))
                else
                  next18 (s17.1, IntKind.i64.wrap (s17.2 + 1))
              else
                next8 (s17.1, IntKind.i64.wrap (s7.2 + 1))) fuel (s7.1, 0)
          else
            next3 (s7.1, IntKind.i64.wrap (s2.2 + 1))) fuel (s2.1, 0)
      else
        fin s2) fuel (([] : List (List Int)), 0)) Q := by
  have e40 := idem_len h
  refine Ret.acc ((idem c).length : Int) (fun i s => s = (rows c i).map toL) (by omega) (by omega) rfl ?_ ?_
  · rintro i s next i0 i1 rfl hn
    have ai := idem_ar (el_mem i0 i1)
    dsimp only
    rw [if_pos (decide_eq_true i1)]
    refine Ret.acc ((idem c).length : Int) (fun j s => s = (rows c i ++ rowJ c i j).map toL) (by omega) (by omega) (by unfold rowJ; simp) ?_ ?_
    · rintro j s nx j0 j1 rfl hn2
      have aj := idem_ar (el_mem j0 j1)
      have hl := homL_len h (el c.From (el (idem c) i)) (el c.From (el (idem c) j))
      dsimp only
      rw [if_pos (decide_eq_true j1)]
      refine Ret.idx i0 i1 (Ret.idx ai.p ai.q (Ret.idx j0 j1 (Ret.idx aj.p aj.q (Ret.call (show M.spec_l02Hom c _ _ = some (homs c i j) from l02Hom_eq h _ _) ?_))))
      refine Ret.acc ((homs c i j).length : Int) (fun k s => s = (upto c i j k).map toL) (by omega) (by unfold homs; omega) (by rw [upto_zero i j]) ?_ ?_
      · rintro k s nx2 k0 k1 rfl hn3
        have ak := hom_ar (show el (homs c i j) k ∈ homL c (el c.From (el (idem c) i)) (el c.From (el (idem c) j)) from el_mem k0 k1)
        have ac := ai.comp h ak
        have L := upto_len h i0 i1 j0 j1 (k := k)
        dsimp only
        rw [if_pos (decide_eq_true k1)]
        refine Ret.idx k0 k1 (Ret.call (ai.th h ak) (Ret.call (ac.th h aj) (Ret.ite (fun q => Ret.chk ?_ (hn3 _ ?_)) (fun q => hn3 _ ?_))))
        · unfold lim; rw [List.length_map]; omega
        · rw [upto_yes k0 k1 (decide_eq_true (beq_iff_eq.1 q)), map_snoc]
        · rw [upto_no k0 k1 fun z => q (beq_iff_eq.2 (of_decide_eq_true z))]
      · rintro s nx2 rfl
        dsimp only
        rw [if_neg (by simp)]
        refine hn2 _ ?_
        rw [upto_all j0]
    · rintro s nx rfl
      dsimp only
      rw [if_neg (by simp)]
      refine hn _ ?_
      rw [rows_succ i0]
  · rintro s next rfl
    dsimp only
    rw [if_neg (by simp)]
    exact hfin

noncomputable def idsC (c : XCategory) : List Int := tab ((idem c).length : Int) fun i => fnd (arr c) ⟨i, i, el (idem c) i⟩
noncomputable def cmpC (c : XCategory) (a b : Int) : Int := fnd (arr c) ⟨(el (arr c) a).E0, (el (arr c) b).E1, cmp c (el (arr c) a).E2 (el (arr c) b).E2⟩
noncomputable def compsC (c : XCategory) : List (List Int) := tab ((arr c).length : Int) fun a => tab ((arr c).length : Int) fun b => if (el (arr c) a).E1 = (el (arr c) b).E0 then cmpC c a b else -1
/-- The category of the idempotents. -/
noncomputable def karC (c : XCategory) : XCategory := ⟨((idem c).length : Int), (arr c).map X3_int64.E0, (arr c).map X3_int64.E1, idsC c, compsC c⟩
def FitC (c : XCategory) : Prop := ((idem c).length : Int) ≤ 8 ∧ ((arr c).length : Int) ≤ 40

theorem l11Complete_r (h : Shp c) : Ret (M.spec_l11Complete c) fun r => ∃ m, r = ((⟨((idem c).length : Int), (arr c).map X3_int64.E0, (arr c).map X3_int64.E1, idsC c, m⟩ : XCategory), (arr c).map toL) ∧ (FitC c → m = compsC c) := by
  have e40 := idem_len h
  have sA := arr_small h
  have lA := arr_len h
  unfold M.spec_l11Complete
  refine Ret.call (l11Idempotents_eq h) (rows_r h ?_)
  dsimp only
  refine Ret.call (column_eq sA (by decide) (by decide) (f := X3_int64.E0) fun y => rfl) (Ret.call (column_eq sA (by decide) (by decide) (f := X3_int64.E1) fun y => rfl) ?_)
  refine Ret.acc ((idem c).length : Int) (fun i s => s = tab i fun i => fnd (arr c) ⟨i, i, el (idem c) i⟩) (by omega) (by omega) rfl ?_ ?_
  · rintro i s next i0 i1 rfl hn
    dsimp only
    rw [if_pos (decide_eq_true i1)]
    refine Ret.idx i0 i1 (Ret.call (l09Find_eq sA _ _ _) (Ret.chk ?_ (hn _ (tab_succ _ i0).symm)))
    unfold lim; rw [tab_length]; simp only [List.length_cons, List.length_nil]; omega
  · rintro s next rfl
    dsimp only
    rw [if_neg (by simp)]
    have LL : (((arr c).map toL).length : Int) = ((arr c).length : Int) := by rw [List.length_map]
    rw [LL]
    have fits : ∀ m, M.spec_l02Fits (⟨((idem c).length : Int), (arr c).map X3_int64.E0, (arr c).map X3_int64.E1, tab ((idem c).length : Int) (fun i => fnd (arr c) ⟨i, i, el (idem c) i⟩), m⟩ : XCategory) = some (decide (FitC c)) := fun m => by
      rw [l02Fits_eq]
      congr 1
      rw [Bool.eq_iff_iff]
      simp only [Bool.and_eq_true, decide_eq_true_eq, List.length_map]
      rfl
    by_cases hf : FitC c
    · have hf2 := hf.2
      refine Ret.acc ((arr c).length : Int) (fun a s => s = tab a fun a => tab ((arr c).length : Int) fun b => if (el (arr c) a).E1 = (el (arr c) b).E0 then cmpC c a b else -1) (by omega) (by omega) rfl ?_ ?_
      · rintro a s nx a0 a1 rfl hn
        have ra := arr_at (el_mem a0 a1)
        dsimp only
        rw [if_pos (decide_eq_true a1)]
        refine Ret.call (fits _) ?_
        rw [if_pos (decide_eq_true hf)]
        refine Ret.acc ((arr c).length : Int) (fun b s => s = tab b fun b => if (el (arr c) a).E1 = (el (arr c) b).E0 then cmpC c a b else -1) (by omega) (by omega) rfl ?_ ?_
        · rintro b s nx2 b0 b1 rfl hn2
          have rb := arr_at (el_mem b0 b1)
          dsimp only
          rw [if_pos (decide_eq_true b1)]
          refine Ret.idx a0 (by omega) (Ret.idx b0 (by omega) ?_)
          rw [el_toL a0 a1, el_toL b0 b1]
          refine Ret.idx (by decide) (by simp [toL]) (Ret.idx (by decide) (by simp [toL]) (Ret.ite (fun q => ?_) (fun q => ?_)))
          · refine Ret.idx (by decide) (by simp [toL]) (Ret.idx (by decide) (by simp [toL]) (Ret.idx (by decide) (by simp [toL]) (Ret.idx (by decide) (by simp [toL]) (Ret.call (l02Then_in h (i := (el (arr c) a).E2) (j := (el (arr c) b).E2) ra.2.2 rb.2.2) (Ret.call (l09Find_eq sA _ _ _) (Ret.chk ?_ (hn2 _ ?_)))))))
            · unfold lim; rw [tab_length]; simp only [List.length_cons, List.length_nil]; omega
            · rw [tab_succ _ b0, if_pos (show (el (arr c) a).E1 = (el (arr c) b).E0 from beq_iff_eq.1 q)]; rfl
          · refine Ret.chk ?_ (hn2 _ ?_)
            · unfold lim; rw [tab_length]; simp only [List.length_cons, List.length_nil]; omega
            · rw [tab_succ _ b0, if_neg fun z : (el (arr c) a).E1 = (el (arr c) b).E0 => q (beq_iff_eq.2 z)]
        · rintro s nx2 rfl
          dsimp only
          rw [if_neg (by simp)]
          refine Ret.chk ?_ (hn _ (tab_succ _ a0).symm)
          unfold lim; rw [tab_length]; omega
      · rintro s nx rfl
        dsimp only
        rw [if_neg (by simp)]
        exact Ret.some ⟨_, rfl, fun _ => rfl⟩
    · refine Ret.acc ((arr c).length : Int) (fun _ _ => True) (by omega) (by omega) trivial ?_ ?_
      · intro a s nx a0 a1 _ hn
        dsimp only
        rw [if_pos (decide_eq_true a1)]
        refine Ret.call (fits _) ?_
        rw [if_neg fun z => hf (of_decide_eq_true z)]
        exact Ret.some ⟨_, rfl, fun z => absurd z hf⟩
      · intro s nx _
        dsimp only
        rw [if_neg (by simp)]
        exact Ret.some ⟨_, rfl, fun z => absurd z hf⟩

theorem karC_small (hf : FitC c) : SmallC (karC c) := by
  have := hf.1
  have := hf.2
  refine ⟨?_, ?_, ?_, ?_, fun r hr => ?_⟩
  · show Small ((arr c).map X3_int64.E0); unfold Small; rw [List.length_map]; omega
  · show Small ((arr c).map X3_int64.E1); unfold Small; rw [List.length_map]; omega
  · show Small (idsC c); unfold Small idsC; rw [tab_length]; omega
  · show Small (compsC c); unfold Small compsC; rw [tab_length]; omega
  · obtain ⟨i, i0, i1, rfl⟩ := mem_el hr
    have l : (((arr c).length : Int).toNat : Int) = ((arr c).length : Int) := by omega
    have i1 : i < (((compsC c).length : Nat) : Int) := i1
    unfold compsC at i1
    rw [tab_length] at i1
    show Small (el (compsC c) i)
    unfold compsC
    rw [el_tab i0 (by omega)]
    unfold Small
    rw [tab_length]; omega
theorem tableK_eq {c0 : XCategory} {o : List Int} {A : List X3_int64} {c : XCategory} {v : Int → Int → Int} (hm : (c.From.length : Int) ≤ 40) (ht : (c.To.length : Int) = (c.From.length : Int))
    (hg : ∀ i j, 0 ≤ i → i < (c.From.length : Int) → 0 ≤ j → j < (c.From.length : Int) → el c.To i = el c.From j → M.impl_Category_completed_1 i j (⟨(), (), (), (), (), (), A⟩ : Xcompletion_q) c0 = some (v i j)) :
    M.impl_Category_table_completion (⟨c, o, A⟩ : Xcompletion) c0 = some (⟨⟨c.Objects, c.From, c.To, c.Identity, tab (c.From.length : Int) fun i => tab (c.From.length : Int) fun j => if el c.To i = el c.From j then v i j else -1⟩, o, A⟩ : Xcompletion) := by
  apply Ret.eq
  unfold M.impl_Category_table_completion M.impl_Category_arrows
  dsimp only
  simp only [Option.bind_some]
  refine Ret.chk ⟨by omega, by unfold lim; omega⟩ ?_
  simp only [List.length_replicate]
  have e1 : (((c.From.length : Int).toNat : Nat) : Int) = (c.From.length : Int) := by omega
  simp only [e1]
  refine Ret.acc (c.From.length : Int) (fun i a => a = tab (c.From.length : Int) fun k => if k < i then (tab (c.From.length : Int) fun j => if el c.To k = el c.From j then v k j else -1) else []) (by omega) (by omega) ?_ ?_ ?_
  · rw [rep_tab]; apply tab_congr; intro j h0 h1; rw [if_neg (by omega)]
  · rintro i a next hi0 hi1 rfl hn1
    dsimp only
    simp only [decide_eq_true_eq]
    rw [if_pos hi1, set_tab hi0, rep_tab]
    refine Ret.idx hi0 (by rw [tab_length]; omega) ?_
    refine Ret.idx hi0 (by rw [tab_length]; omega) ?_
    rw [el_tab hi0 hi1]
    simp only [if_true, tab_length, e1]
    refine Ret.acc (c.From.length : Int) (fun j a => a = tab (c.From.length : Int) fun k => if k = i then (tab (c.From.length : Int) fun l => if l < j then (if el c.To k = el c.From l then v k l else -1) else 0) else if k < i then (tab (c.From.length : Int) fun j => if el c.To k = el c.From j then v k j else -1) else []) (by omega) (by omega) ?_ ?_ ?_
    · apply tab_congr
      intro k hk0 hk1
      by_cases hk : k = i
      · simp only [hk, if_true]
        apply tab_congr; intro l hl0 hl1; rw [if_neg (by omega)]
      · simp only [if_neg hk]
    · rintro j a next' hj0 hj1 rfl hn2
      dsimp only
      rw [if_pos hj1]
      refine Ret.idx hi0 (by rw [tab_length]; omega) ?_
      rw [el_tab hi0 hi1]
      simp only [if_true]
      refine Ret.idx hj0 (by rw [tab_length]; omega) ?_
      refine Ret.idx hi0 (by omega) (Ret.idx hj0 hj1 ?_)
      refine Ret.ite (fun hb => ?_) (fun hb => ?_)
      · have hb' : el c.To i = el c.From j := by simpa using hb
        simp only [set_tab hi0, set_tab hj0]
        refine Ret.idx hi0 (by rw [tab_length]; omega) ?_
        rw [el_tab hi0 hi1]
        simp only [if_true]
        refine Ret.call (hg i j hi0 hi1 hj0 hj1 hb') ?_
        refine Ret.idx hj0 (by rw [tab_length]; omega) (hn2 _ ?_)
        simp only [set_tab hj0]
        apply tab_congr
        intro k hk0 hk1
        by_cases hk : k = i
        · simp only [hk, if_true]
          apply tab_congr; intro l hl0 hl1
          by_cases hl : l = j
          · subst hl; rw [if_pos rfl, if_pos (show l < l + 1 by omega), if_pos hb']
          · simp only [if_neg hl]
            by_cases hlj : l < j
            · rw [if_pos hlj, if_pos (show l < j + 1 by omega)]
            · rw [if_neg hlj, if_neg (show ¬ l < j + 1 by omega)]
        · simp only [if_neg hk]
      · have hb' : ¬ el c.To i = el c.From j := by simpa using hb
        simp only [set_tab hi0, set_tab hj0]
        refine hn2 _ ?_
        apply tab_congr
        intro k hk0 hk1
        by_cases hk : k = i
        · simp only [hk, if_true]
          apply tab_congr; intro l hl0 hl1
          by_cases hl : l = j
          · subst hl; rw [if_pos rfl, if_pos (show l < l + 1 by omega), if_neg hb']
          · simp only [if_neg hl]
            by_cases hlj : l < j
            · rw [if_pos hlj, if_pos (show l < j + 1 by omega)]
            · rw [if_neg hlj, if_neg (show ¬ l < j + 1 by omega)]
        · simp only [if_neg hk]
    · rintro a next' rfl
      dsimp only
      rw [if_neg (by omega)]
      refine hn1 _ ?_
      apply tab_congr
      intro k hk0 hk1
      by_cases hk : k = i
      · subst hk
        simp only [if_true]
        rw [if_pos (by omega)]
        apply tab_congr; intro l hl0 hl1; rw [if_pos (by omega)]
      · simp only [if_neg hk]
        by_cases hlt : k < i
        · rw [if_pos hlt, if_pos (by omega)]
        · rw [if_neg hlt, if_neg (by omega)]
  · rintro a next rfl
    dsimp only
    simp only [decide_eq_true_eq]
    rw [if_neg (by omega)]
    refine Ret.some ?_
    congr 1
    congr 1
    apply tab_congr
    intro k hk0 hk1
    rw [if_pos hk1]

theorem completed1_eq (h : Shp c) {a b : Int} (a0 : 0 ≤ a) (a1 : a < ((arr c).length : Int)) (b0 : 0 ≤ b) (b1 : b < ((arr c).length : Int)) :
    M.impl_Category_completed_1 a b (⟨(), (), (), (), (), (), arr c⟩ : Xcompletion_q) c = some (cmpC c a b) := by
  apply Ret.eq
  have ra := arr_at (el_mem a0 a1)
  have rb := arr_at (el_mem b0 b1)
  unfold M.impl_Category_completed_1
  refine Ret.idx a0 a1 (Ret.idx b0 b1 (Ret.call (then_in h ra.2.2 rb.2.2) (Ret.call (arrow_eq (arr_small h) _ _ _) (Ret.some rfl))))

noncomputable def kC (c : XCategory) : Xcompletion := ⟨karC c, idem c, arr c⟩
theorem completed_eq (h : Shp c) : M.impl_Category_completed c = some (if FitC c then (kC c, true) else ((⟨⟨0, [], [], [], []⟩, [], []⟩ : Xcompletion), false)) := by
  apply Ret.eq
  have sA := arr_small h
  have e40 := idem_len h
  unfold M.impl_Category_completed
  refine Ret.call (idempotents_eq h) (Ret.ite (fun q => Ret.some ?_) (fun q => arrows_r h ?_))
  · have q := of_decide_eq_true q
    rw [if_neg fun z : FitC c => by have := z.1; omega]
  · have q := of_decide_eq_false (Bool.eq_false_iff.2 q)
    dsimp only
    refine Ret.ite (fun q2 => Ret.some ?_) (fun q2 => ?_)
    · have q2 := of_decide_eq_true q2
      rw [if_neg fun z : FitC c => by have := z.2; omega]
    · have q2 := of_decide_eq_false (Bool.eq_false_iff.2 q2)
      have hf : FitC c := ⟨by omega, by omega⟩
      rw [if_pos hf]
      refine Ret.chk ⟨by omega, by unfold lim; omega⟩ ?_
      refine Ret.loop ((arr c).length : Int) (fun i s => s = (((arr c).take i.toNat).map X3_int64.E0, ((arr c).take i.toNat).map X3_int64.E1, i)) (by omega) (by omega) rfl ?_ ?_
      · rintro i s next i0 i1 rfl hn
        dsimp only
        rw [if_pos (decide_eq_true i1)]
        refine Ret.idx i0 i1 (Ret.chk ?_ (Ret.chk ?_ (hn _ ?_)))
        · unfold lim; simp only [List.length_map, List.length_take, List.length_cons, List.length_nil]; omega
        · unfold lim; simp only [List.length_map, List.length_take, List.length_cons, List.length_nil]; omega
        · rw [take_succ_el i0 i1, List.map_append, List.map_append, wrap_in (by omega) (by omega)]; rfl
      · rintro s next rfl
        dsimp only
        rw [if_neg (by simp), show (((arr c).length : Int)).toNat = (arr c).length by omega, List.take_length]
        refine Ret.acc ((idem c).length : Int) (fun i s => s = tab ((idem c).length : Int) fun j => if j < i then fnd (arr c) ⟨j, j, el (idem c) j⟩ else 0) (by omega) (by omega) ?_ ?_ ?_
        · rw [rep_tab]; apply tab_congr; intro j j0 j1; rw [if_neg (by omega)]
        · rintro i s nx i0 i1 rfl hn
          dsimp only
          rw [if_pos (decide_eq_true i1)]
          refine Ret.idx i0 i1 (Ret.call (arrow_eq sA _ _ _) (Ret.idx i0 (by rw [tab_length]; omega) (hn _ ?_)))
          rw [set_tab i0]
          apply tab_congr
          intro j j0 j1
          by_cases w : j = i
          · subst w; rw [if_pos rfl, if_pos (by omega)]
          · rw [if_neg w]
            by_cases w2 : j < i
            · rw [if_pos w2, if_pos (by omega)]
            · rw [if_neg w2, if_neg (by omega)]
        · rintro s nx rfl
          dsimp only
          rw [if_neg (by simp)]
          have e : (tab ((idem c).length : Int) fun j => if j < ((idem c).length : Int) then fnd (arr c) ⟨j, j, el (idem c) j⟩ else 0) = idsC c := by
            unfold idsC
            apply tab_congr; intro j j0 j1; rw [if_pos j1]
          rw [e]
          have L0 : ((((arr c).map X3_int64.E0).length : Nat) : Int) = ((arr c).length : Int) := by rw [List.length_map]
          refine Ret.call (tableK_eq (v := cmpC c) (c := ⟨((idem c).length : Int), (arr c).map X3_int64.E0, (arr c).map X3_int64.E1, idsC c, []⟩) (by show ((((arr c).map X3_int64.E0).length : Nat) : Int) ≤ 40; omega) (by show ((((arr c).map X3_int64.E1).length : Nat) : Int) = ((((arr c).map X3_int64.E0).length : Nat) : Int); rw [List.length_map, List.length_map]) ?_) (Ret.some ?_)
          · intro i j i0 i1 j0 j1 _
            have i1 : i < ((((arr c).map X3_int64.E0).length : Nat) : Int) := i1
            have j1 : j < ((((arr c).map X3_int64.E0).length : Nat) : Int) := j1
            exact completed1_eq h i0 (by omega) j0 (by omega)
          · dsimp only
            rw [L0]
            unfold kC karC compsC
            congr 1
            congr 1
            congr 1
            apply tab_congr
            intro i i0 i1
            apply tab_congr
            intro j j0 j1
            rw [el_map i0 i1, el_map j0 j1]

end
end Go.Gx

/- The law of CompletionOfFunctor. -/
namespace Go.Gx
open Classical
set_option maxHeartbeats 1000000

noncomputable def obsF (f : XFunctor) : List Int := tab ((idem f.Source).length : Int) fun i => indexL (idem f.Target) (el f.Arrows (el (idem f.Source) i))
noncomputable def arsF (f : XFunctor) : List Int := tab ((arr f.Source).length : Int) fun i => fnd (arr f.Target) ⟨el (obsF f) (el (arr f.Source) i).E0, el (obsF f) (el (arr f.Source) i).E1, el f.Arrows (el (arr f.Source) i).E2⟩

theorem fitsC_eq {c : XCategory} (m : List (List Int)) : M.spec_l02Fits (⟨((idem c).length : Int), (arr c).map X3_int64.E0, (arr c).map X3_int64.E1, idsC c, m⟩ : XCategory) = some (decide (FitC c)) := by
  rw [l02Fits_eq]
  congr 1
  rw [Bool.eq_iff_iff]
  simp only [Bool.and_eq_true, decide_eq_true_eq, List.length_map]
  rfl

theorem CompletionOfFunctor_both {f : XFunctor} (hs : SmallF f) : ∃ g w, SmallF g ∧ M.spec_CompletionOfFunctor f = some (g, w) ∧ M.impl_CompletionOfFunctor f = some (g, w) := by
  by_cases hk : IsFun f
  · have h := hk.1.1.shp
    have h' := hk.2.1.1.shp
    have ok := hk.2.2
    have la := ok.la
    have sA := arr_small h'
    have lA := arr_len h
    have e40 := idem_len h
    have sI : Small (idem f.Target) := by have := idem_len h'; unfold Small; omega
    have m40 := h.m40
    obtain ⟨⟨k, R⟩, ek, m, em, hm⟩ := l11Complete_r h
    obtain ⟨rfl, rfl⟩ := Prod.mk.inj em
    obtain ⟨⟨k', R'⟩, ek', m', em', hm'⟩ := l11Complete_r h'
    obtain ⟨rfl, rfl⟩ := Prod.mk.inj em'
    by_cases hf : FitC f.Source
    · by_cases hf' : FitC f.Target
      · obtain rfl := hm hf
        obtain rfl := hm' hf'
        have hfa := hf.2
        have oL : ((obsF f).length : Int) = ((idem f.Source).length : Int) := by unfold obsF; rw [tab_length]; omega
        have so : Small (obsF f) := by unfold Small; omega
        have sa : Small (arsF f) := by unfold Small arsF; rw [tab_length]; omega
        have sk := karC_small hf
        have sk' := karC_small hf'
        refine ⟨⟨karC f.Source, karC f.Target, obsF f, arsF f⟩, 0, ⟨sk, sk', so, sa⟩, ?_, ?_⟩
        · apply Ret.eq
          unfold M.spec_CompletionOfFunctor
          refine Ret.call (l06Is_eq hs) ?_
          rw [if_pos (decide_eq_true hk)]
          refine Ret.call ek (Ret.call ek' ?_)
          dsimp only
          refine Ret.call (fitsC_eq _) ?_
          rw [if_pos (decide_eq_true hf)]
          refine Ret.call (fitsC_eq _) ?_
          rw [if_pos (decide_eq_true hf')]
          refine Ret.call (l11Idempotents_eq h) (Ret.call (l11Idempotents_eq h') ?_)
          refine Ret.acc ((idem f.Source).length : Int) (fun i s => s = tab i fun i => indexL (idem f.Target) (el f.Arrows (el (idem f.Source) i))) (by omega) (by omega) rfl ?_ ?_
          · rintro i s next i0 i1 rfl hn
            have ai := idem_ar (el_mem i0 i1)
            dsimp only
            rw [if_pos (decide_eq_true i1)]
            refine Ret.idx i0 i1 (Ret.idx ai.p (by have := ai.q; omega) (Ret.call (l01Index_eq sI _) (Ret.chk ?_ (hn _ (tab_succ _ i0).symm))))
            unfold lim; rw [tab_length]; simp only [List.length_cons, List.length_nil]; omega
          · rintro s next rfl
            dsimp only
            rw [if_neg (by simp)]
            have LL : (((arr f.Source).map toL).length : Int) = ((arr f.Source).length : Int) := by rw [List.length_map]
            rw [LL]
            change Ret (iter _ fuel (([] : List Int), 0)) _
            refine Ret.acc ((arr f.Source).length : Int) (fun i s => s = tab i fun i => fnd (arr f.Target) ⟨el (obsF f) (el (arr f.Source) i).E0, el (obsF f) (el (arr f.Source) i).E1, el f.Arrows (el (arr f.Source) i).E2⟩) (by omega) (by omega) rfl ?_ ?_
            · rintro i s nx i0 i1 rfl hn
              have r := arr_at (el_mem i0 i1)
              dsimp only
              rw [if_pos (decide_eq_true i1)]
              refine Ret.idx i0 (by omega) ?_
              rw [el_toL i0 i1]
              refine Ret.idx (by decide) (by simp [toL]) (Ret.idx r.1.1 (show (el (arr f.Source) i).E0 < _ by have := r.1.2; unfold obsF at oL; omega) (Ret.idx (by decide) (by simp [toL]) (Ret.idx r.2.1.1 (show (el (arr f.Source) i).E1 < _ by have := r.2.1.2; unfold obsF at oL; omega) (Ret.idx (by decide) (by simp [toL]) (Ret.idx r.2.2.1 (show (el (arr f.Source) i).E2 < _ by have := r.2.2.2; omega) (Ret.call (l09Find_eq sA _ _ _) (Ret.chk ?_ (hn _ (tab_succ _ i0).symm))))))))
              unfold lim; rw [tab_length]; simp only [List.length_cons, List.length_nil]; omega
            · rintro s nx rfl
              dsimp only
              rw [if_neg (by simp)]
              exact Ret.call (l06Make_eq sk sk' so sa) (Ret.some rfl)
        · apply Ret.eq
          unfold M.impl_CompletionOfFunctor
          refine Ret.call (isFunctor_eq hs) ?_
          rw [if_pos (decide_eq_true hk)]
          refine Ret.call (completed_eq h) ?_
          rw [if_pos hf]
          refine Ret.call (completed_eq h') ?_
          rw [if_pos hf']
          dsimp only
          rw [if_pos rfl]
          simp only [show (kC f.Source).objects_ = idem f.Source from rfl, show (kC f.Source).arrows_ = arr f.Source from rfl, show (kC f.Target).arrows_ = arr f.Target from rfl]
          refine Ret.acc ((idem f.Source).length : Int) (fun i s => s = tab i fun i => indexL (idem f.Target) (el f.Arrows (el (idem f.Source) i))) (by omega) (by omega) rfl ?_ ?_
          · rintro i s next i0 i1 rfl hn
            have ai := idem_ar (el_mem i0 i1)
            dsimp only
            rw [if_pos (decide_eq_true i1)]
            refine Ret.idx i0 i1 (Ret.idx ai.p (by have := ai.q; omega) (Ret.call (show M.impl_completion_object (kC f.Target) _ = some (indexL (idem f.Target) _) by unfold M.impl_completion_object; rw [show (kC f.Target).objects_ = idem f.Target from rfl, index_eq sI]; rfl) (Ret.chk ?_ (hn _ (tab_succ _ i0).symm))))
            unfold lim; rw [tab_length]; simp only [List.length_cons, List.length_nil]; omega
          · rintro s next rfl
            dsimp only
            rw [if_neg (by simp)]
            change Ret (iter _ fuel (([] : List Int), 0)) _
            refine Ret.acc ((arr f.Source).length : Int) (fun i s => s = tab i fun i => fnd (arr f.Target) ⟨el (obsF f) (el (arr f.Source) i).E0, el (obsF f) (el (arr f.Source) i).E1, el f.Arrows (el (arr f.Source) i).E2⟩) (by omega) (by omega) rfl ?_ ?_
            · rintro i s nx i0 i1 rfl hn
              have r := arr_at (el_mem i0 i1)
              dsimp only
              rw [if_pos (decide_eq_true i1)]
              refine Ret.idx i0 i1 (Ret.idx r.1.1 (by have := r.1.2; unfold obsF at oL; omega) (Ret.idx r.2.1.1 (by have := r.2.1.2; unfold obsF at oL; omega) (Ret.idx r.2.2.1 (by have := r.2.2.2; omega) (Ret.call (arrow_eq sA _ _ _) (Ret.chk ?_ (hn _ (tab_succ _ i0).symm))))))
              unfold lim; rw [tab_length]; simp only [List.length_cons, List.length_nil]; omega
            · rintro s nx rfl
              dsimp only
              rw [if_neg (by simp)]
              exact Ret.call (functor_eq sk sk' so sa) (Ret.some rfl)
      · refine ⟨zeroF, 3, zeroF_small, ?_, ?_⟩
        · unfold M.spec_CompletionOfFunctor
          rw [l06Is_eq hs, decide_eq_true hk, Option.bind_some, if_pos rfl, ek, Option.bind_some, ek', Option.bind_some]
          dsimp only
          rw [fitsC_eq, decide_eq_true hf, Option.bind_some, if_pos rfl, fitsC_eq, decide_eq_false hf', Option.bind_some, if_neg (by decide)]
          rfl
        · unfold M.impl_CompletionOfFunctor
          rw [isFunctor_eq hs, decide_eq_true hk, Option.bind_some, if_pos rfl, completed_eq h, if_pos hf, Option.bind_some, completed_eq h', if_neg hf']
          rfl
    · refine ⟨zeroF, 3, zeroF_small, ?_, ?_⟩
      · unfold M.spec_CompletionOfFunctor
        rw [l06Is_eq hs, decide_eq_true hk, Option.bind_some, if_pos rfl, ek, Option.bind_some, ek', Option.bind_some]
        dsimp only
        rw [fitsC_eq, decide_eq_false hf, Option.bind_some, if_neg (by decide)]
        rfl
      · unfold M.impl_CompletionOfFunctor
        rw [isFunctor_eq hs, decide_eq_true hk, Option.bind_some, if_pos rfl, completed_eq h, if_neg hf, Option.bind_some, completed_eq h']
        by_cases hf' : FitC f.Target
        · rw [if_pos hf']; rfl
        · rw [if_neg hf']; rfl
  · refine ⟨zeroF, 1, zeroF_small, ?_, ?_⟩
    · unfold M.spec_CompletionOfFunctor
      rw [l06Is_eq hs, decide_eq_false hk, Option.bind_some, if_neg (by decide)]
      rfl
    · unfold M.impl_CompletionOfFunctor
      rw [isFunctor_eq hs, decide_eq_false hk, Option.bind_some, if_neg (by decide)]
      rfl
theorem law_CompletionOfFunctor {a0 : XFunctor} (h0 : R.XFunctor a0) : M.laws_FnExactCompletionOfFunctor a0 = some true := by
  unfold M.laws_FnExactCompletionOfFunctor
  obtain ⟨v0, e0, hv0⟩ := szFunctor_r (n := 1048576) (by decide) (by decide) (fitsF h0)
  rw [e0, Option.bind_some]
  rcases hv0 with ⟨z0, _⟩ | ⟨l0, u0, s0⟩
  · rw [if_pos (decide_eq_true z0)]
  · rw [if_neg (fun h => absurd (of_decide_eq_true h) (by omega))]
    rw [toFunctor_eq s0, Option.bind_some]
    obtain ⟨g0, w, hg0, es, ei⟩ := CompletionOfFunctor_both s0
    rw [es, ei]
    simp only [Option.bind_some]
    rw [eqFunctor_refl hg0, eqFunctor_refl s0]
    obtain ⟨n0, x0, p0, q0, c0, d0, _⟩ := mh_F s0 1 (by omega) (by omega)
    obtain ⟨n1, x1, p1, q1, c1, d1, _⟩ := mh_F hg0 1 (by omega) (by omega)
    simp only [Option.bind_some, bne_self_eq_false, Bool.false_eq_true, if_false, if_true, decide_eq_true_eq, c0, c1, d1]
    rw [if_neg (by omega), if_neg (by omega)]

end Go.Gx
