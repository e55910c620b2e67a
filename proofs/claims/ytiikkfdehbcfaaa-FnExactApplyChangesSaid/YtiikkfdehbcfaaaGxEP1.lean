/- Laid together: part 1. -/
import Derived.Test.YtiikkfdehbcfaaaGxEP0
import Derived.Test.YtiikkfdehbcfaaaGxEM0
import Derived.Test.YtiikkfdehbcfaaaGxEM1
/- Plain laws: inverses, isomorphisms among arrows. -/
namespace Go.Gx
open Classical
set_option maxHeartbeats 1000000

theorem el_get {l : List Int} {k : Nat} (h : k < l.length) : el l (k : Int) = l[k] := by
  unfold el; simp [h]
end Go.Gx

/- Plain laws: objects and arrows of a category, in range. -/
namespace Go.Gx
open Classical
set_option maxHeartbeats 1000000

end Go.Gx

/- Plain laws: universal arrows. -/
namespace Go.Gx
open Classical
set_option maxHeartbeats 1000000

/-! ### lists without doubles -/
theorem fil_nodup (n : Int) (p : Int → Bool) : (fil n p).Nodup := by
  unfold fil
  refine List.Pairwise.filter _ ?_
  rw [List.pairwise_map]
  exact (show List.Pairwise (fun a b : Nat => a ≠ b) (List.range n.toNat) from List.nodup_range).imp fun h e => h (by omega)
/-! ### a map's keys -/
/-- What a map holds after the first i values. -/
structure Keys (l : List Int) (m : List (Int × Bool)) : Prop where
  mem : ∀ k, k ∈ m.map (·.1) ↔ k ∈ l
  le : m.length ≤ l.length
  eq : m.length = l.length ↔ l.Nodup
/-! ### universal arrows -/
abbrev lftL (f : XFunctor) (x z e g : Int) : List Int := (homL f.Source x z).filter fun u => cmp f.Target (el f.Arrows u) e == g
def Univ (f : XFunctor) (y z e : Int) : Prop := ∀ x, 0 ≤ x → x < f.Source.Objects → ∀ g ∈ homL f.Target (el f.Objects x) y, ((lftL f x z e g).length : Int) = 1

/-- What is found: the first universal arrow to y. -/
def Found (f : XFunctor) (y : Int) (r : Int × Int × Bool) : Prop :=
  (r.2.2 = true ∧ 0 ≤ r.1 ∧ r.1 < f.Source.Objects ∧ (∀ x, 0 ≤ x → x < r.1 → ∀ g ∈ homL f.Target (el f.Objects x) y, ¬ Univ f y x g) ∧
    ∃ j, 0 ≤ j ∧ j < ((homL f.Target (el f.Objects r.1) y).length : Int) ∧ r.2.1 = el (homL f.Target (el f.Objects r.1) y) j ∧ Univ f y r.1 r.2.1 ∧ ∀ k, 0 ≤ k → k < j → ¬ Univ f y r.1 (el (homL f.Target (el f.Objects r.1) y) k)) ∨
  (r = (0, 0, false) ∧ ∀ x, 0 ≤ x → x < f.Source.Objects → ∀ g ∈ homL f.Target (el f.Objects x) y, ¬ Univ f y x g)

theorem Found.one {f : XFunctor} {y : Int} {r s : Int × Int × Bool} (hr : Found f y r) (hs : Found f y s) : r = s := by
  obtain ⟨r1, r2, r3⟩ := r
  obtain ⟨s1, s2, s3⟩ := s
  rcases hr with ⟨a1, a2, a3, a4, j, j0, j1, j2, j3, j4⟩ | ⟨a1, a2⟩ <;> rcases hs with ⟨b1, b2, b3, b4, k, k0, k1, k2, k3, k4⟩ | ⟨b1, b2⟩
  · dsimp only at *
    have e1 : r1 = s1 := by
      rcases Int.lt_trichotomy r1 s1 with h | h | h
      · exact absurd j3 (b4 r1 a2 h r2 (j2 ▸ el_mem j0 j1))
      · exact h
      · exact absurd k3 (a4 s1 b2 h s2 (k2 ▸ el_mem k0 k1))
    subst e1
    have e2 : j = k := by
      rcases Int.lt_trichotomy j k with h | h | h
      · exact absurd j3 (j2 ▸ k4 j j0 h)
      · exact h
      · exact absurd k3 (k2 ▸ j4 k k0 h)
    subst e2
    rw [j2, k2, a1, b1]
  · dsimp only at *
    exact absurd j3 (b2 r1 a2 a3 r2 (j2 ▸ el_mem j0 j1))
  · dsimp only at *
    exact absurd k3 (a2 s1 b2 b3 s2 (k2 ▸ el_mem k0 k1))
  · rw [a1, b1]

end Go.Gx

/- Plain laws: products of categories. -/
namespace Go.Gx
open Classical
set_option maxHeartbeats 2000000

theorem mulb {i j n m : Int} (i0 : 0 ≤ i) (h : i < n) (h0 : 0 ≤ j) (h1 : j < m) : 0 ≤ i * m ∧ i * m + j < n * m ∧ i * m + m ≤ n * m := by
  have e1 : (i + 1) * m ≤ n * m := Int.mul_le_mul_of_nonneg_right (by omega) (by omega)
  rw [Int.add_mul, Int.one_mul] at e1
  have e2 := Int.mul_nonneg i0 (show 0 ≤ m by omega)
  omega
theorem mulB {n m N M : Int} (h0 : 0 ≤ n) (h1 : n ≤ N) (h2 : 0 ≤ m) (h3 : m ≤ M) : 0 ≤ n * m ∧ n * m ≤ N * M :=
  ⟨Int.mul_nonneg h0 h2, Int.mul_le_mul h1 h3 h2 (by omega)⟩
theorem parts {k n m : Int} (h0 : 0 ≤ k) (h1 : k < n * m) (hm : 0 ≤ m) : 0 < m ∧ 0 ≤ k / m ∧ k / m < n ∧ 0 ≤ k % m ∧ k % m < m := by
  have hm : 0 < m := by
    rcases Int.lt_or_eq_of_le hm with h | h
    · exact h
    · rw [← h, Int.mul_zero] at h1; omega
  exact ⟨hm, Int.ediv_nonneg h0 (by omega), Int.ediv_lt_of_lt_mul hm h1, Int.emod_nonneg _ (by omega), Int.emod_lt_of_pos _ hm⟩
/-- Two numbers as one, over all pairs. -/
abbrev tab2 {α : Type} (n m : Int) (f : Int → Int → α) : List α := tab (n * m) fun k => f (k / m) (k % m)
theorem tab_len' (n : Int) {α : Type} (f : Int → α) (h : 0 ≤ n) : ((tab n f).length : Int) = n := by rw [tab_length]; omega

end Go.Gx

/- Plain laws: the product as impl makes it; projections. -/
namespace Go.Gx
open Classical
set_option maxHeartbeats 2000000

end Go.Gx

/- Plain laws: pairs of lists; products of functors. -/
namespace Go.Gx
open Classical
set_option maxHeartbeats 1000000

abbrev pairF (a b : List Int) (n : Int) (i j : Int) : Int := el a i * n + el b j
def pairL (a b : List Int) (n : Int) : List Int := tab2 (a.length : Int) (b.length : Int) (pairF a b n)
/-- Codes of pairs are small numbers. -/
structure PairOk (a b : List Int) (n A : Int) : Prop where
  hA : A ≤ 40
  hn : n ≤ 40
  la : (a.length : Int) ≤ 40
  lb : (b.length : Int) ≤ 40
  ia : In A a
  ib : In n b

theorem PairOk.len {a b : List Int} {n A : Int} (h : PairOk a b n A) {i j : Int} (i0 : 0 ≤ i) (i1 : i < (a.length : Int)) (j0 : 0 ≤ j) (j1 : j < (b.length : Int)) (F : Int → Int) :
    ((tab (i * (b.length : Int) + j) F).length : Int) ≤ 1600 := by
  have hb1 := mulb i0 i1 j0 j1
  have hB := mulB (n := (a.length : Int)) (m := (b.length : Int)) (N := 40) (M := 40) (by omega) h.la (by omega) h.lb
  rw [tab_len' _ _ (by omega)]; omega
theorem PairOk.small {a b : List Int} {n A : Int} (h : PairOk a b n A) : Small (pairL a b n) := by
  have hB := mulB (n := (a.length : Int)) (m := (b.length : Int)) (N := 40) (M := 40) (by omega) h.la (by omega) h.lb
  unfold Small pairL; rw [tab_len' _ _ hB.1]; omega

end Go.Gx

/- Plain laws: places in lists; full parts of a category. -/
namespace Go.Gx
open Classical
set_option maxHeartbeats 1000000

/-! ### places -/
/-! ### full parts -/
noncomputable def fullL (c : XCategory) (o : List Int) : List Int := fil (c.From.length : Int) fun f => decide (el c.From f ∈ o) && decide (el c.To f ∈ o)
theorem fullL_mem {c : XCategory} {o : List Int} {f : Int} : f ∈ fullL c o ↔ 0 ≤ f ∧ f < (c.From.length : Int) ∧ el c.From f ∈ o ∧ el c.To f ∈ o := by
  unfold fullL
  rw [fil_mem, Bool.and_eq_true, decide_eq_true_iff, decide_eq_true_iff]
/-- A choice of objects: those that pass. -/
structure Pick (c : XCategory) (o : List Int) : Prop where
  s : Shp c
  e : o = fil c.Objects fun x => decide (x ∈ o)
theorem Pick.nodup {c : XCategory} {o : List Int} (h : Pick c o) : o.Nodup := by rw [h.e]; exact fil_nodup _ _
theorem Pick.len {c : XCategory} {o : List Int} (h : Pick c o) : (o.length : Int) ≤ c.Objects := by
  have h1 := fil_length_le c.Objects fun x => decide (x ∈ o)
  have n0 := h.s.n0
  have := congrArg List.length h.e
  omega
theorem Pick.id {c : XCategory} {o : List Int} (h : Pick c o) {x : Int} (x0 : 0 ≤ x) (x1 : x < c.Objects) : el c.Identity x ∈ fullL c o ↔ x ∈ o := by
  have i := h.s.id_in x x0 x1
  rw [fullL_mem, h.s.id_from x x0 x1, h.s.id_to x x0 x1]
  exact ⟨fun y => y.2.2.1, fun y => ⟨i.1, i.2, y, y⟩⟩
end Go.Gx

/- Plain laws: labels and their classes; elements that are joined. -/
namespace Go.Gx
open Classical
set_option maxHeartbeats 1000000

/-! ### the least equivalence -/
inductive Eqv (P : Int → Int → Prop) : Int → Int → Prop
  | of {x y : Int} : P x y → Eqv P x y
  | refl (x : Int) : Eqv P x x
  | symm {x y : Int} : Eqv P x y → Eqv P y x
  | trans {x y z : Int} : Eqv P x y → Eqv P y z → Eqv P x z

theorem Eqv.mono {P Q : Int → Int → Prop} (h : ∀ x y, P x y → Eqv Q x y) {x y : Int} (e : Eqv P x y) : Eqv Q x y := by
  induction e with
  | of p => exact h _ _ p
  | refl x => exact .refl x
  | symm _ ih => exact .symm ih
  | trans _ _ ih1 ih2 => exact .trans ih1 ih2
theorem Eqv.congr {P Q : Int → Int → Prop} (h : ∀ x y, P x y → Eqv Q x y) (h' : ∀ x y, Q x y → Eqv P x y) {x y : Int} : Eqv P x y ↔ Eqv Q x y := ⟨Eqv.mono h, Eqv.mono h'⟩
/-- An equivalence that holds where P does. -/
theorem Eqv.into {P : Int → Int → Prop} {f : Int → Int} (h : ∀ x y, P x y → f x = f y) {x y : Int} (e : Eqv P x y) : f x = f y := by
  induction e with
  | of p => exact h _ _ p
  | refl x => rfl
  | symm _ ih => exact ih.symm
  | trans _ _ ih1 ih2 => exact ih1.trans ih2
theorem Eqv.add {P : Int → Int → Prop} {p q i j : Int} : Eqv (fun x y => P x y ∨ (x = p ∧ y = q)) i j ↔ Eqv P i j ∨ (Eqv P i p ∧ Eqv P q j) ∨ (Eqv P i q ∧ Eqv P p j) := by
  constructor
  · intro e
    induction e with
    | of h =>
      rcases h with h | ⟨rfl, rfl⟩
      · exact .inl (.of h)
      · exact .inr (.inl ⟨.refl _, .refl _⟩)
    | refl x => exact .inl (.refl x)
    | symm _ ih =>
      rcases ih with h | ⟨h, k⟩ | ⟨h, k⟩
      · exact .inl h.symm
      · exact .inr (.inr ⟨k.symm, h.symm⟩)
      · exact .inr (.inl ⟨k.symm, h.symm⟩)
    | trans _ _ ih1 ih2 =>
      rcases ih1 with h | ⟨h, k⟩ | ⟨h, k⟩
      · rcases ih2 with h' | ⟨h', k'⟩ | ⟨h', k'⟩
        · exact .inl (h.trans h')
        · exact .inr (.inl ⟨h.trans h', k'⟩)
        · exact .inr (.inr ⟨h.trans h', k'⟩)
      · rcases ih2 with h' | ⟨h', k'⟩ | ⟨h', k'⟩
        · exact .inr (.inl ⟨h, k.trans h'⟩)
        · exact .inr (.inl ⟨h, k'⟩)
        · exact .inl (h.trans k')
      · rcases ih2 with h' | ⟨h', k'⟩ | ⟨h', k'⟩
        · exact .inr (.inr ⟨h, k.trans h'⟩)
        · exact .inl (h.trans k')
        · exact .inr (.inr ⟨h, k'⟩)
  · have up : ∀ {a b}, Eqv P a b → Eqv (fun x y => P x y ∨ (x = p ∧ y = q)) a b := fun h => Eqv.mono (fun x y z => .of (.inl z)) h
    have pq : Eqv (fun x y => P x y ∨ (x = p ∧ y = q)) p q := .of (.inr ⟨rfl, rfl⟩)
    rintro (h | ⟨h, k⟩ | ⟨h, k⟩)
    · exact up h
    · exact (up h).trans (pq.trans (up k))
    · exact (up h).trans (pq.symm.trans (up k))

/-- f tells R apart on 0 .. n - 1. -/
def Ker (n : Int) (f : Int → Int) (R : Int → Int → Prop) : Prop := ∀ i j, 0 ≤ i → i < n → 0 ≤ j → j < n → (f i = f j ↔ R i j)

theorem Ker.congr {n : Int} {f : Int → Int} {R S : Int → Int → Prop} (h : Ker n f R) (e : ∀ i j, R i j ↔ S i j) : Ker n f S := fun i j i0 i1 j0 j1 => (h i j i0 i1 j0 j1).trans (e i j)
theorem Ker.none {n : Int} {f : Int → Int} (h : ∀ i j, 0 ≤ i → i < n → 0 ≤ j → j < n → f i = f j → i = j) : Ker n f (Eqv fun _ _ => False) := by
  intro i j i0 i1 j0 j1
  constructor
  · intro e; rw [h i j i0 i1 j0 j1 e]; exact .refl _
  · intro e; exact congrArg f (Eqv.into (f := fun x => x) (fun _ _ h => h.elim) e)
/-! ### labels numbered in the order in which they come -/
theorem least {p : Int → Prop} : ∀ (k : Nat), p (k : Int) → ∃ i : Int, 0 ≤ i ∧ i ≤ (k : Int) ∧ p i ∧ ∀ j, 0 ≤ j → j < i → ¬ p j := by
  intro k
  induction k using Nat.strongRecOn with
  | ind k ih =>
    intro hk
    by_cases h : ∃ j : Nat, j < k ∧ p (j : Int)
    · obtain ⟨j, hj, pj⟩ := h
      obtain ⟨i, i0, i1, pi, hi⟩ := ih j hj pj
      exact ⟨i, i0, by omega, pi, hi⟩
    · refine ⟨(k : Int), by omega, by omega, hk, fun j j0 j1 pj => h ⟨j.toNat, by omega, ?_⟩⟩
      rwa [show ((j.toNat : Nat) : Int) = j by omega]

section
variable {l : List Int}
end

/-! ### a forest whose roots are the least of their classes -/
structure UF (j : List Int) (ρ : Int → Int) : Prop where
  up : ∀ x, 0 ≤ x → x < (j.length : Int) → 0 ≤ el j x ∧ el j x ≤ x
  st : ∀ x, 0 ≤ x → x < (j.length : Int) → ρ (el j x) = ρ x
  fx : ∀ x, 0 ≤ x → x < (j.length : Int) → el j x = x → ρ x = x
  lo : ∀ x, 0 ≤ x → x < (j.length : Int) → 0 ≤ ρ x ∧ ρ x ≤ x
  ix : ∀ x, 0 ≤ x → x < (j.length : Int) → ρ (ρ x) = ρ x

theorem el_set {α : Type} [Inhabited α] {l : List α} {i k : Int} {v : α} (i0 : 0 ≤ i) (i1 : i < (l.length : Int)) (k0 : 0 ≤ k) : el (l.set i.toNat v) k = if k = i then v else el l k := by
  unfold el
  rw [List.getD_eq_getElem?_getD, List.getD_eq_getElem?_getD, List.getElem?_set]
  by_cases h : k = i
  · subst h; rw [if_pos rfl, if_pos (by omega), if_pos rfl]; rfl
  · rw [if_neg (by omega), if_neg h]

section
variable {j : List Int} {ρ : Int → Int}
theorem UF.start (n : Int) : UF (tab n fun x => x) (fun x => x) := by
  refine ⟨?_, ?_, ?_, ?_, ?_⟩ <;> intro x x0 x1 <;> (try rw [tab_length] at x1) <;> (try rw [el_tab x0 (by omega)]) <;> try omega
end
end Go.Gx

/- Plain laws: schemas and changes: sizes, copies, marks. -/
namespace Go.Gx
open Classical
set_option maxHeartbeats 1000000

instance : Inhabited XPath := ⟨⟨0, []⟩⟩
instance : Inhabited XChange := ⟨⟨0, 0, 0, 0⟩⟩

structure FitsPS (l : List XPath) : Prop where
  f1 : Fits l
  f2 : ∀ p ∈ l, Fits p.Edges
structure SmallPS (l : List XPath) : Prop where
  s1 : Small l
  s2 : ∀ p ∈ l, Small p.Edges
structure FitsH (s : XSchema) : Prop where
  f1 : Fits s.From
  f2 : Fits s.To
  f3 : FitsPS s.Left
  f4 : FitsPS s.Right
structure SmallH (s : XSchema) : Prop where
  s1 : Small s.From
  s2 : Small s.To
  s3 : SmallPS s.Left
  s4 : SmallPS s.Right
theorem fitsPS {l : List XPath} (h : AllL R.XPath l) : FitsPS l := ⟨h.1, fun p hp => (h.2 p hp).2.1⟩
theorem fitsH {s : XSchema} (h : R.XSchema s) : FitsH s := ⟨h.2.1.1, h.2.2.1.1, fitsPS h.2.2.2.1, fitsPS h.2.2.2.2⟩

theorem szPath_r {p : XPath} {n : Int} (h0 : 0 ≤ n) (h1 : n ≤ 1048576) (h : Fits p.Edges) :
    Ret (M.laws_szPath p n) fun r => (r < 0 ∧ r = -1) ∨ (0 ≤ r ∧ r ≤ n ∧ Small p.Edges) := by
  unfold M.laws_szPath
  simp only [decide_eq_true_eq]
  (repeat' (first | with_reducible refine Ret.pos ‹_› ?_ | with_reducible refine Ret.neg ‹_› ?_ | with_reducible refine Ret.neg (Int.lt_irrefl _) ?_ | with_reducible refine Ret.ite (fun _ => ?_) (fun _ => ?_) | with_reducible refine Ret.idx ?_ ?_ ?_ | with_reducible refine Ret.chk ?_ ?_ | with_reducible refine hn3 ?_ | with_reducible refine hn2 ?_ | with_reducible refine hn1 ?_ | with_reducible refine hn3 _ ?_ | with_reducible refine hn2 _ ?_ | with_reducible refine hn1 _ ?_ | with_reducible refine Ret.bind (szInt64S_r ?_ ?_ ?_) fun v hv => ?_ | with_reducible refine Ret.some ?_))
  all_goals first | assumption | omega | (refine Or.inl ⟨by omega, rfl⟩) | (refine Or.inr ⟨by omega, by omega, ?_⟩; grind)

theorem szPathS_r {l : List XPath} {n : Int} (h0 : 0 ≤ n) (h1 : n ≤ 1048576) (h : FitsPS l) :
    Ret (M.laws_szPathS l n) fun r => (r < 0 ∧ r = -1) ∨ (0 ≤ r ∧ r ≤ n ∧ SmallPS l) := by
  obtain ⟨hl, hr⟩ := h
  unfold M.laws_szPathS
  rw [wrap_in (by omega) (by omega)]
  refine Ret.ite (fun _ => Ret.some (Or.inl ⟨by decide, rfl⟩)) (fun e => ?_)
  have e := of_decide_eq_false (Bool.eq_false_iff.2 e)
  refine Ret.acc (l.length : Int) (fun i a => 0 ≤ a ∧ a ≤ n ∧ ∀ j, 0 ≤ j → j < i → Small (el l j).Edges) (by omega) (by omega) ⟨by omega, by omega, fun j h0 h1 => by omega⟩ ?_ ?_
  · intro i a next hi0 hi1 hp hn1
    dsimp only
    rw [if_pos (decide_eq_true hi1)]
    refine Ret.idx hi0 hi1 (Ret.bind (szPath_r hp.1 (by omega) (hr _ (el_mem hi0 hi1))) fun v hv => Ret.ite (fun _ => Ret.some (Or.inl ⟨by decide, rfl⟩)) (fun e2 => ?_))
    have e2 := of_decide_eq_false (Bool.eq_false_iff.2 e2)
    rcases hv with ⟨z, _⟩ | ⟨v0, v1, vs⟩
    · omega
    · refine hn1 _ ⟨v0, by omega, fun j j0 j1 => ?_⟩
      by_cases w : j = i
      · subst w; exact vs
      · exact hp.2.2 j j0 (by omega)
  · intro a next hp
    dsimp only
    rw [if_neg (by simp)]
    refine Ret.some (Or.inr ⟨hp.1, hp.2.1, ⟨by unfold Small; omega, fun x hx => ?_⟩⟩)
    obtain ⟨i, h0, h1, rfl⟩ := mem_el hx
    exact hp.2.2 i h0 h1

theorem szSchema_r {s : XSchema} {n : Int} (h0 : 0 ≤ n) (h1 : n ≤ 1048576) (h : FitsH s) :
    Ret (M.laws_szSchema s n) fun r => (r < 0 ∧ r = -1) ∨ (0 ≤ r ∧ r ≤ n ∧ SmallH s) := by
  obtain ⟨g1, g2, g3, g4⟩ := h
  unfold M.laws_szSchema
  simp only [decide_eq_true_eq]
  (repeat' (first | with_reducible refine Ret.pos ‹_› ?_ | with_reducible refine Ret.neg ‹_› ?_ | with_reducible refine Ret.neg (Int.lt_irrefl _) ?_ | with_reducible refine Ret.ite (fun _ => ?_) (fun _ => ?_) | with_reducible refine Ret.idx ?_ ?_ ?_ | with_reducible refine Ret.chk ?_ ?_ | with_reducible refine hn3 ?_ | with_reducible refine hn2 ?_ | with_reducible refine hn1 ?_ | with_reducible refine hn3 _ ?_ | with_reducible refine hn2 _ ?_ | with_reducible refine hn1 _ ?_ | with_reducible refine Ret.bind (szInt64S_r ?_ ?_ ?_) fun v hv => ?_ | with_reducible refine Ret.bind (szPathS_r ?_ ?_ ?_) fun v hv => ?_ | with_reducible refine Ret.some ?_))
  all_goals first | assumption | omega | (refine Or.inl ⟨by omega, rfl⟩) | (refine Or.inr ⟨by omega, by omega, ⟨?_, ?_, ?_, ?_⟩⟩ <;> grind)

theorem szChangeS_r {l : List XChange} {n : Int} (h0 : 0 ≤ n) (h1 : n ≤ 1048576) (h : Fits l) :
    Ret (M.laws_szChangeS l n) fun r => (r < 0 ∧ r = -1) ∨ (0 ≤ r ∧ r ≤ n ∧ Small l) := by
  unfold M.laws_szChangeS
  rw [wrap_in (by omega) (by omega)]
  simp only [decide_eq_true_eq]
  (repeat' (first | with_reducible refine Ret.pos ‹_› ?_ | with_reducible refine Ret.neg ‹_› ?_ | with_reducible refine Ret.neg (Int.lt_irrefl _) ?_ | with_reducible refine Ret.ite (fun _ => ?_) (fun _ => ?_) | with_reducible refine Ret.idx ?_ ?_ ?_ | with_reducible refine Ret.chk ?_ ?_ | with_reducible refine hn3 ?_ | with_reducible refine hn2 ?_ | with_reducible refine hn1 ?_ | with_reducible refine hn3 _ ?_ | with_reducible refine hn2 _ ?_ | with_reducible refine hn1 _ ?_ | with_reducible refine Ret.some ?_))
  all_goals (try ((fail_if_success (with_reducible refine Ret.probe ?_)); grind))

theorem szX_r {l : List (List Int)} {n : Int} (h0 : 0 ≤ n) (h1 : n ≤ 1048576) (h : AllL (AllL I64) l) :
    Ret (M.laws_szInt64SS l n) fun r => (r < 0 ∧ r = -1) ∨ (0 ≤ r ∧ r ≤ n ∧ SmallX l) :=
  szInt64SS_r h0 h1 h.1 fun r hr => (h.2 r hr).1

/-! ### copies -/
theorem toPath_eq {p : XPath} (h : Small p.Edges) : M.laws_toPath p = some p := by
  unfold M.laws_toPath
  rw [toInt64S_eq h]; rfl

theorem toPathS_eq {l : List XPath} (h : SmallPS l) : M.laws_toPathS l = some l := by
  apply Ret.eq
  have s1 := h.s1
  unfold Small at s1
  unfold M.laws_toPathS
  refine Ret.chk ⟨by omega, by unfold lim; omega⟩ ?_
  refine Ret.acc (l.length : Int) (fun i a => a = tab (l.length : Int) fun j => if j < i then el l j else ⟨0, []⟩) (by omega) (by omega) ?_ ?_ ?_
  · rw [rep_tab]; apply tab_congr; intro j h0 h1; rw [if_neg (by omega)]
  · rintro i a next hi0 hi1 rfl hn1
    dsimp only
    rw [if_pos (decide_eq_true hi1)]
    refine Ret.idx hi0 hi1 (Ret.call (toPath_eq (h.s2 _ (el_mem hi0 hi1))) (Ret.idx hi0 (by rw [tab_length]; omega) (hn1 _ ?_)))
    exact set_copy hi0 hi1
  · rintro a next rfl
    dsimp only
    rw [if_neg (by simp)]
    refine Ret.some ?_
    conv => rhs; rw [← tab_el l]
    apply tab_congr; intro j h0 h1; rw [if_pos h1]

theorem toSchema_eq {s : XSchema} (h : SmallH s) : M.laws_toSchema s = some s := by
  unfold M.laws_toSchema
  rw [toInt64S_eq h.s1, toInt64S_eq h.s2, toPathS_eq h.s3, toPathS_eq h.s4]; rfl

theorem toChangeS_eq {l : List XChange} (h : Small l) : M.laws_toChangeS l = some l := by
  apply Ret.eq
  unfold Small at h
  unfold M.laws_toChangeS M.laws_toChange
  refine Ret.chk ⟨by omega, by unfold lim; omega⟩ ?_
  refine Ret.acc (l.length : Int) (fun i a => a = tab (l.length : Int) fun j => if j < i then el l j else ⟨0, 0, 0, 0⟩) (by omega) (by omega) ?_ ?_ ?_
  · rw [rep_tab]; apply tab_congr; intro j h0 h1; rw [if_neg (by omega)]
  · rintro i a next hi0 hi1 rfl hn1
    dsimp only
    rw [if_pos (decide_eq_true hi1)]
    refine Ret.idx hi0 hi1 ?_
    rw [Option.bind_some]
    refine Ret.idx hi0 (by rw [tab_length]; omega) (hn1 _ ?_)
    exact set_copy hi0 hi1
  · rintro a next rfl
    dsimp only
    rw [if_neg (by simp)]
    refine Ret.some ?_
    conv => rhs; rw [← tab_el l]
    apply tab_congr; intro j h0 h1; rw [if_pos h1]

theorem eqPathS_refl {l : List XPath} (h : SmallPS l) : M.laws_eqPathS l l = some true := by
  apply Ret.eq
  have s1 := h.s1
  unfold Small at s1
  unfold M.laws_eqPathS
  rw [if_neg (by simp)]
  refine Ret.all (l.length : Int) (fun _ => True) (by omega) (by omega) ?_ ?_
  · intro i next hi0 hi1 hp hn1
    rw [if_pos (decide_eq_true hi1)]
    refine Ret.idx hi0 hi1 (Ret.idx hi0 hi1 ?_)
    have e : M.laws_eqPath (el l i) (el l i) = some true := by
      unfold M.laws_eqPath
      rw [eqInt64S_refl (h.s2 _ (el_mem hi0 hi1))]; simp
    exact Ret.call e (hn1 trivial)
  · intro next hp
    rw [if_neg (by simp)]
    exact Ret.some rfl

theorem eqSchema_refl {s : XSchema} (h : SmallH s) : M.laws_eqSchema s s = some true := by
  unfold M.laws_eqSchema
  rw [eqInt64S_refl h.s1, eqInt64S_refl h.s2, eqPathS_refl h.s3, eqPathS_refl h.s4]; simp

theorem eqChangeS_refl {l : List XChange} (h : Small l) : M.laws_eqChangeS l l = some true := by
  apply Ret.eq
  unfold Small at h
  unfold M.laws_eqChangeS
  rw [if_neg (by simp)]
  refine Ret.all (l.length : Int) (fun _ => True) (by omega) (by omega) ?_ ?_
  · intro i next hi0 hi1 hp hn1
    rw [if_pos (decide_eq_true hi1)]
    refine Ret.idx hi0 hi1 (Ret.idx hi0 hi1 ?_)
    have e : M.laws_eqChange (el l i) (el l i) = some true := by
      unfold M.laws_eqChange
      simp
    exact Ret.call e (hn1 trivial)
  · intro next hp
    rw [if_neg (by simp)]
    exact Ret.some rfl

/-! ### marks -/
/-- At most N marks. -/
def MK {α : Type} (N : Int) (mark : α → Int → Option (Int × α)) (x : α) : Prop :=
  ∀ k, 0 ≤ k → k + N ≤ 2305843009213693952 → ∃ n x', 0 ≤ n ∧ n ≤ N ∧ mark x k = some (k + n, x')

theorem mk_PS {l : List XPath} (h : SmallPS l) : MK 1099512676352 M.laws_markPathS l := by
  intro k h0 h1
  have s1 := h.s1
  unfold Small at s1
  have key : Ret (M.laws_markPathS l k) fun r => k ≤ r.1 ∧ r.1 ≤ k + 1099512676352 := by
    unfold M.laws_markPathS
    refine Ret.loop (l.length : Int) (fun i s => s.2.2 = i ∧ (s.1.length : Int) = (l.length : Int) ∧ (∀ j, i ≤ j → j < (l.length : Int) → Small (el s.1 j).Edges) ∧ k ≤ s.2.1 ∧ s.2.1 ≤ k + i * 1048577) (by omega) (by omega)
      ⟨rfl, rfl, fun j j0 j1 => h.s2 _ (el_mem j0 j1), by dsimp only; omega, by dsimp only; omega⟩ ?_ ?_
    · rintro i ⟨a, m, i'⟩ next i0 i1 ⟨rfl, hl, hs, m0, m1⟩ hn
      dsimp only at hl hs m0 m1 i0 i1 ⊢
      rw [if_pos (decide_eq_true (by omega))]
      refine Ret.idx i0 (by omega) (Ret.idx i0 (by rw [List.length_set]; omega) ?_)
      have se := hs i' (by omega) i1
      rw [el_set i0 (by omega) i0, if_pos rfl, wrap_in (by omega) (by omega)]
      refine Ret.call (mark_S se (by omega) (by omega)) (hn _ ⟨wrap_in (by omega) (by omega), ?_, ?_, ?_, ?_⟩)
      · dsimp only; rw [List.length_set, List.length_set]; exact hl
      · intro j j0 j1
        dsimp only at j0 ⊢
        have L : ((a.set i'.toNat (⟨m, (el a i').Edges⟩ : XPath)).length : Int) = (a.length : Int) := by rw [List.length_set]
        rw [el_set i0 (by omega) (by omega), if_neg (by omega), el_set i0 (by omega) (by omega), if_neg (by omega)]
        exact hs j (by omega) j1
      · dsimp only; omega
      · dsimp only; unfold Small at se; omega
    · rintro ⟨a, m, i'⟩ next ⟨rfl, hl, hs, m0, m1⟩
      dsimp only at hl hs m0 m1 ⊢
      rw [if_neg (by simp only [decide_eq_true_eq]; omega)]
      exact Ret.some ⟨m0, by omega⟩
  obtain ⟨⟨m, x⟩, e, a, b⟩ := key
  refine ⟨m - k, x, ?_, ?_, ?_⟩
  · dsimp only at a; omega
  · dsimp only at b; omega
  · rw [e, show k + (m - k) = m by omega]

theorem mk_H {s : XSchema} (h : SmallH s) : MK 2199027449856 M.laws_markSchema s := by
  intro k h0 h1
  obtain ⟨n1, l1, a1, b1, e1, _⟩ := mh_S h.s1 k h0 (by omega)
  obtain ⟨n2, l2, a2, b2, e2, _⟩ := mh_S h.s2 (k + n1) (by omega) (by omega)
  obtain ⟨n3, l3, a3, b3, e3⟩ := mk_PS h.s3 (k + n1 + n2) (by omega) (by omega)
  obtain ⟨n4, l4, a4, b4, e4⟩ := mk_PS h.s4 (k + n1 + n2 + n3) (by omega) (by omega)
  refine ⟨n1 + n2 + n3 + n4, ⟨s.Nodes, l1, l2, l3, l4⟩, by omega, by omega, ?_⟩
  unfold M.laws_markSchema
  simp only [e1, e2, e3, e4, Option.bind_some, Option.some.injEq, Prod.mk.injEq, and_true]
  omega

theorem mk_D {l : List XChange} (h : Small l) : MK 4194304 M.laws_markChangeS l := by
  intro k h0 h1
  unfold Small at h
  have key : Ret (M.laws_markChangeS l k) fun r => k ≤ r.1 ∧ r.1 ≤ k + 4194304 := by
    unfold M.laws_markChangeS
    refine Ret.loop (l.length : Int) (fun i s => s.2.2 = i ∧ (s.1.length : Int) = (l.length : Int) ∧ s.2.1 = k + i * 4) (by omega) (by omega)
      ⟨rfl, rfl, by dsimp only; omega⟩ ?_ ?_
    · rintro i ⟨a, m, i'⟩ next i0 i1 ⟨rfl, hl, hm⟩ hn
      dsimp only at hl hm i0 i1 ⊢
      rw [if_pos (decide_eq_true (by omega))]
      refine Ret.idx i0 (by omega) (Ret.idx i0 (by rw [List.length_set]; omega) (Ret.idx i0 (by rw [List.length_set, List.length_set]; omega) (Ret.idx i0 (by rw [List.length_set, List.length_set, List.length_set]; omega) (hn _ ⟨wrap_in (by omega) (by omega), ?_, ?_⟩))))
      · dsimp only; rw [List.length_set, List.length_set, List.length_set, List.length_set]; exact hl
      · dsimp only
        rw [wrap_in (x := m + 1) (by omega) (by omega), wrap_in (x := m + 1 + 1) (by omega) (by omega), wrap_in (x := m + 1 + 1 + 1) (by omega) (by omega), wrap_in (by omega) (by omega)]
        omega
    · rintro ⟨a, m, i'⟩ next ⟨rfl, hl, hm⟩
      dsimp only at hl hm ⊢
      rw [if_neg (by simp only [decide_eq_true_eq]; omega)]
      exact Ret.some ⟨by dsimp only; omega, by dsimp only; omega⟩
  obtain ⟨⟨m, x⟩, e, a, b⟩ := key
  refine ⟨m - k, x, ?_, ?_, ?_⟩
  · dsimp only at a; omega
  · dsimp only at b; omega
  · rw [e, show k + (m - k) = m by omega]
end Go.Gx

/- Plain laws: schemas, data, walks, changes. -/
namespace Go.Gx
open Classical
set_option maxHeartbeats 1000000

theorem l01R_eq {y n : Int} (h0 : 0 ≤ n) (h8 : n ≤ 1048576) : M.spec_l01In y 0 (IntKind.i64.wrap (n - 1)) = some (decide (0 ≤ y ∧ y < n)) := by
  rw [l01In_eq, wrap_in (by omega) (by omega)]
  congr 1
  rw [Bool.eq_iff_iff]
  simp only [Bool.and_eq_true, decide_eq_true_eq]
  omega
theorem inR0_eq {y n : Int} (h0 : 0 ≤ n) (h8 : n ≤ 1048576) : M.impl_inRange y 0 (IntKind.i64.wrap (n - 1)) = some (decide (0 ≤ y ∧ y < n)) := by
  rw [inRange_eq, wrap_in (by omega) (by omega)]
  congr 1
  rw [Bool.eq_iff_iff]
  simp only [Bool.and_eq_true, decide_eq_true_eq]
  omega

/-- The node at which a path stands after k edges. -/
noncomputable def nd (S : XSchema) (p : XPath) (k : Int) : Int := if k = 0 then p.Start else el S.To (el p.Edges (k - 1))
structure PathP (S : XSchema) (p : XPath) : Prop where
  st : 0 ≤ p.Start ∧ p.Start < S.Nodes
  ln : (p.Edges.length : Int) ≤ 6
  ie : In (S.From.length : Int) p.Edges
  ch : ∀ k, 0 ≤ k → k < (p.Edges.length : Int) → el S.From (el p.Edges k) = nd S p k
noncomputable def endP (S : XSchema) (p : XPath) : Int := nd S p (p.Edges.length : Int)

structure Base (S : XSchema) : Prop where
  n0 : 0 ≤ S.Nodes ∧ S.Nodes ≤ 8
  f8 : (S.From.length : Int) ≤ 8
  tl : (S.To.length : Int) = (S.From.length : Int)
  fi : In S.Nodes S.From
  ti : In S.Nodes S.To

section
variable {S : XSchema} {p : XPath}
theorem nd_succ {k : Int} (h : 0 ≤ k) : nd S p (k + 1) = el S.To (el p.Edges k) := by
  unfold nd
  rw [if_neg (by omega), show k + 1 - 1 = k by omega]

theorem l36Path_eq (h : Base S) (sp : Small p.Edges) : M.spec_l36Path S p = some (decide (PathP S p)) := by
  apply Ret.eq
  have n0 := h.n0
  have f8 := h.f8
  have tl := h.tl
  unfold M.spec_l36Path
  refine Ret.call (l01R_eq n0.1 (by omega)) (Ret.ite (fun e1 => ?_) (fun e1 => Ret.some ?_))
  · have e1 := of_decide_eq_true e1
    refine Ret.ite (fun e2 => Ret.some ?_) (fun e2 => ?_)
    · have e2 := of_decide_eq_true e2
      rw [decide_eq_false (fun z : PathP S p => by have := z.ln; omega)]
    · have e2 := of_decide_eq_false (Bool.eq_false_iff.2 e2)
      refine Ret.call (l01Map_eq sp) (Ret.ite (fun e3 => ?_) (fun e3 => Ret.some ?_))
      · have e3 := of_decide_eq_true e3
        refine Ret.loop (p.Edges.length : Int) (fun i s => s = (nd S p i, i) ∧ ∀ k, 0 ≤ k → k < i → el S.From (el p.Edges k) = nd S p k) (by omega) (by omega) ⟨rfl, fun k k0 k1 => by omega⟩ ?_ ?_
        · rintro i s next i0 i1 ⟨rfl, hp⟩ hn
          have r := e3 i i0 i1
          dsimp only
          rw [if_pos (decide_eq_true i1)]
          refine Ret.idx i0 i1 (Ret.idx r.1 r.2 (Ret.ite (fun q => Ret.some ?_) (fun q => Ret.idx r.1 (by omega) (hn _ ⟨?_, ?_⟩))))
          · rw [decide_eq_false (fun z : PathP S p => bne_iff_ne.1 q (z.ch i i0 i1))]
          · rw [nd_succ i0, wrap_in (by omega) (by omega)]
          · intro k k0 k1
            by_cases w : k = i
            · subst w; exact Decidable.byContradiction fun z => q (bne_iff_ne.2 z)
            · exact hp k k0 (by omega)
        · rintro s next ⟨rfl, hp⟩
          dsimp only
          rw [if_neg (by simp)]
          exact Ret.some (decide_eq_true ⟨e1, by omega, e3, hp⟩).symm
      · rw [decide_eq_false (fun z : PathP S p => e3 (decide_eq_true z.ie))]
  · rw [decide_eq_false (fun z : PathP S p => e1 (decide_eq_true z.st))]

theorem l36End_eq (h : Base S) (hp : PathP S p) : M.spec_l36End S p = some (endP S p) := by
  apply Ret.eq
  have ln := hp.ln
  have tl := h.tl
  unfold M.spec_l36End
  refine Ret.ite (fun e => Ret.some ?_) (fun e => ?_)
  · have e := beq_iff_eq.1 e
    unfold endP nd
    rw [if_pos e]
  · have e : (p.Edges.length : Int) ≠ 0 := fun z => e (beq_iff_eq.2 z)
    rw [wrap_in (by omega) (by omega)]
    have r := hp.ie ((p.Edges.length : Int) - 1) (by omega) (by omega)
    refine Ret.idx (by omega) (by omega) (Ret.idx r.1 (by omega) (Ret.some ?_))
    unfold endP nd
    rw [if_neg e]

theorem end_eq (h : Base S) (sp : Small p.Edges) : M.impl_Schema_end S p = some (if PathP S p then (endP S p, true) else (0, false)) := by
  apply Ret.eq
  have n0 := h.n0
  have f8 := h.f8
  have tl := h.tl
  unfold M.impl_Schema_end M.impl_Schema_follow
  refine Ret.call (inR0_eq n0.1 (by omega)) (Ret.ite (fun e1 => ?_) (fun e1 => Ret.some ?_))
  · have e1 := of_decide_eq_true e1
    refine Ret.ite (fun e2 => Ret.some ?_) (fun e2 => ?_)
    · have e2 := of_decide_eq_true e2
      rw [if_neg (fun z : PathP S p => by have := z.ln; omega)]
    · have e2 := of_decide_eq_false (Bool.eq_false_iff.2 e2)
      have key : Ret (M.impl_Schema_follow S p.Start p.Edges) fun r => r = if PathP S p then (endP S p, true) else (0, false) := by
        unfold M.impl_Schema_follow
        refine Ret.loop (p.Edges.length : Int) (fun i s => s = (nd S p i, i) ∧ ∀ k, 0 ≤ k → k < i → (0 ≤ el p.Edges k ∧ el p.Edges k < (S.From.length : Int)) ∧ el S.From (el p.Edges k) = nd S p k) (by omega) (by omega) ⟨rfl, fun k k0 k1 => by omega⟩ ?_ ?_
        · rintro i s next i0 i1 ⟨rfl, hp⟩ hn
          dsimp only
          rw [if_pos (decide_eq_true i1)]
          refine Ret.idx i0 i1 (Ret.call (inR0_eq (by omega) (by omega)) (Ret.ite (fun e3 => ?_) (fun e3 => Ret.some ?_)))
          · have r := of_decide_eq_true e3
            refine Ret.idx r.1 r.2 (Ret.ite (fun q => Ret.some ?_) (fun q => Ret.idx r.1 (by omega) (hn _ ⟨?_, ?_⟩)))
            · rw [if_neg (fun z : PathP S p => bne_iff_ne.1 q (z.ch i i0 i1))]
            · rw [nd_succ i0, wrap_in (by omega) (by omega)]
            · intro k k0 k1
              by_cases w : k = i
              · subst w; exact ⟨r, Decidable.byContradiction fun z => q (bne_iff_ne.2 z)⟩
              · exact hp k k0 (by omega)
          · rw [if_neg (fun z : PathP S p => e3 (decide_eq_true (z.ie i i0 i1)))]
        · rintro s next ⟨rfl, hp⟩
          dsimp only
          rw [if_neg (by simp)]
          refine Ret.some ?_
          rw [if_pos (show PathP S p from ⟨e1, by omega, fun k k0 k1 => (hp k k0 k1).1, fun k k0 k1 => (hp k k0 k1).2⟩)]
          rfl
      unfold M.impl_Schema_follow at key
      refine Ret.bind key fun r hr => Ret.some ?_
      rw [← hr]
  · rw [if_neg (fun z : PathP S p => e1 (decide_eq_true z.st))]

structure PairP (S : XSchema) (p q : XPath) : Prop where
  l : PathP S p
  r : PathP S q
  st : p.Start = q.Start
  en : endP S p = endP S q
structure SchP (S : XSchema) : Prop where
  b : Base S
  l8 : (S.Left.length : Int) ≤ 8
  rl : (S.Right.length : Int) = (S.Left.length : Int)
  pr : ∀ i, 0 ≤ i → i < (S.Left.length : Int) → PairP S (el S.Left i) (el S.Right i)

theorem IsSchema_eq (sS : SmallH S) : M.spec_IsSchema S = some (decide (SchP S)) := by
  apply Ret.eq
  unfold M.spec_IsSchema
  rw [l01In_eq]
  refine Ret.call rfl (Ret.ite (fun e1 => ?_) (fun e1 => Ret.some ?_))
  · have e1 : 0 ≤ S.Nodes ∧ S.Nodes ≤ 8 := by simpa using e1
    refine Ret.ite (fun e2 => Ret.some ?_) (fun e2 => Ret.ite (fun e3 => Ret.some ?_) (fun e3 => ?_))
    · have e2 := of_decide_eq_true e2
      rw [decide_eq_false (fun z : SchP S => by have := z.b.f8; omega)]
    · rw [decide_eq_false (fun z : SchP S => bne_iff_ne.1 e3 z.b.tl)]
    · have e2 := of_decide_eq_false (Bool.eq_false_iff.2 e2)
      have e3 : (S.To.length : Int) = (S.From.length : Int) := Decidable.byContradiction fun z => e3 (bne_iff_ne.2 z)
      refine Ret.call (l01Map_eq sS.s1) (Ret.ite (fun e4 => ?_) (fun e4 => Ret.some ?_))
      · have e4 := of_decide_eq_true e4
        refine Ret.call (l01Map_eq sS.s2) (Ret.ite (fun e5 => ?_) (fun e5 => Ret.some ?_))
        · have e5 := of_decide_eq_true e5
          have hb : Base S := ⟨e1, by omega, e3, e4, e5⟩
          refine Ret.ite (fun e6 => Ret.some ?_) (fun e6 => Ret.ite (fun e7 => Ret.some ?_) (fun e7 => ?_))
          · have e6 := of_decide_eq_true e6
            rw [decide_eq_false (fun z : SchP S => by have := z.l8; omega)]
          · rw [decide_eq_false (fun z : SchP S => bne_iff_ne.1 e7 z.rl)]
          · have e6 := of_decide_eq_false (Bool.eq_false_iff.2 e6)
            have e7 : (S.Right.length : Int) = (S.Left.length : Int) := Decidable.byContradiction fun z => e7 (bne_iff_ne.2 z)
            refine Ret.all (S.Left.length : Int) (fun i => PairP S (el S.Left i) (el S.Right i)) (by omega) (by omega) ?_ ?_
            · intro i next i0 i1 hp hn
              have sl := sS.s3.s2 _ (el_mem i0 i1)
              have sr := sS.s4.s2 _ (el_mem (l := S.Right) i0 (by omega))
              rw [if_pos (decide_eq_true i1)]
              refine Ret.idx i0 i1 (Ret.idx i0 (by omega) (Ret.call (l36Path_eq hb sl) (Ret.ite (fun q1 => Ret.call (l36Path_eq hb sr) (Ret.ite (fun q2 => Ret.ite (fun q3 => Ret.some ?_) (fun q3 => ?_)) (fun q2 => Ret.some ?_))) (fun q1 => Ret.some ?_))))
              · rw [decide_eq_false (fun z : SchP S => bne_iff_ne.1 q3 (z.pr i i0 i1).st)]
              · have q1 := of_decide_eq_true q1
                have q2 := of_decide_eq_true q2
                refine Ret.call (l36End_eq hb q1) (Ret.call (l36End_eq hb q2) (Ret.ite (fun q4 => Ret.some ?_) (fun q4 => hn ⟨q1, q2, ?_, ?_⟩)))
                · rw [decide_eq_false (fun z : SchP S => bne_iff_ne.1 q4 (z.pr i i0 i1).en)]
                · exact Decidable.byContradiction fun z => q3 (bne_iff_ne.2 z)
                · exact Decidable.byContradiction fun z => q4 (bne_iff_ne.2 z)
              · rw [decide_eq_false (fun z : SchP S => q2 (decide_eq_true (z.pr i i0 i1).r))]
              · rw [decide_eq_false (fun z : SchP S => q1 (decide_eq_true (z.pr i i0 i1).l))]
            · intro next hp
              rw [if_neg (by simp)]
              exact Ret.some (decide_eq_true ⟨hb, by omega, e7, hp⟩).symm
        · rw [decide_eq_false (fun z : SchP S => e5 (decide_eq_true z.b.ti))]
      · rw [decide_eq_false (fun z : SchP S => e4 (decide_eq_true z.b.fi))]
  · rw [decide_eq_false (fun z : SchP S => e1 (by simpa using z.b.n0))]

theorem isSchema_eq (sS : SmallH S) : M.impl_Schema_isSchema S = some (decide (SchP S)) := by
  apply Ret.eq
  unfold M.impl_Schema_isSchema
  rw [inRange_eq]
  refine Ret.call rfl (Ret.ite (fun e1 => ?_) (fun e1 => Ret.some ?_))
  · have e1 : 0 ≤ S.Nodes ∧ S.Nodes ≤ 8 := by simpa using e1
    refine Ret.ite (fun e2 => Ret.some ?_) (fun e2 => Ret.ite (fun e3 => Ret.some ?_) (fun e3 => ?_))
    · have e2 := of_decide_eq_true e2
      rw [decide_eq_false (fun z : SchP S => by have := z.b.f8; omega)]
    · rw [decide_eq_false (fun z : SchP S => bne_iff_ne.1 e3 z.b.tl)]
    · have e2 := of_decide_eq_false (Bool.eq_false_iff.2 e2)
      have e3 : (S.To.length : Int) = (S.From.length : Int) := Decidable.byContradiction fun z => e3 (bne_iff_ne.2 z)
      refine Ret.call (within_eq sS.s1 (by omega) (by omega)) (Ret.ite (fun e4 => ?_) (fun e4 => Ret.some ?_))
      · have e4 := of_decide_eq_true e4
        refine Ret.call (within_eq sS.s2 (by omega) (by omega)) (Ret.ite (fun e5 => ?_) (fun e5 => Ret.some ?_))
        · have e5 := of_decide_eq_true e5
          have hb : Base S := ⟨e1, by omega, e3, e4, e5⟩
          refine Ret.ite (fun e6 => Ret.some ?_) (fun e6 => Ret.ite (fun e7 => Ret.some ?_) (fun e7 => ?_))
          · have e6 := of_decide_eq_true e6
            rw [decide_eq_false (fun z : SchP S => by have := z.l8; omega)]
          · rw [decide_eq_false (fun z : SchP S => bne_iff_ne.1 e7 z.rl)]
          · have e6 := of_decide_eq_false (Bool.eq_false_iff.2 e6)
            have e7 : (S.Right.length : Int) = (S.Left.length : Int) := Decidable.byContradiction fun z => e7 (bne_iff_ne.2 z)
            refine Ret.all (S.Left.length : Int) (fun i => PairP S (el S.Left i) (el S.Right i)) (by omega) (by omega) ?_ ?_
            · intro i next i0 i1 hp hn
              have sl := sS.s3.s2 _ (el_mem i0 i1)
              have sr := sS.s4.s2 _ (el_mem (l := S.Right) i0 (by omega))
              rw [if_pos (decide_eq_true i1)]
              refine Ret.idx i0 i1 (Ret.idx i0 (by omega) (Ret.call (end_eq hb sl) (Ret.call (end_eq hb sr) ?_)))
              by_cases q1 : PathP S (el S.Left i)
              · rw [if_pos q1]
                by_cases q2 : PathP S (el S.Right i)
                · rw [if_pos q2]
                  dsimp only
                  rw [if_pos rfl, if_pos rfl]
                  refine Ret.ite (fun q3 => Ret.some ?_) (fun q3 => Ret.ite (fun q4 => Ret.some ?_) (fun q4 => hn ⟨q1, q2, ?_, ?_⟩))
                  · rw [decide_eq_false (fun z : SchP S => bne_iff_ne.1 q3 (z.pr i i0 i1).st)]
                  · rw [decide_eq_false (fun z : SchP S => bne_iff_ne.1 q4 (z.pr i i0 i1).en)]
                  · exact Decidable.byContradiction fun z => q3 (bne_iff_ne.2 z)
                  · exact Decidable.byContradiction fun z => q4 (bne_iff_ne.2 z)
                · rw [if_neg q2]
                  dsimp only
                  rw [if_pos rfl, if_neg (by decide)]
                  refine Ret.some ?_
                  rw [decide_eq_false (fun z : SchP S => q2 (z.pr i i0 i1).r)]
              · rw [if_neg q1]
                dsimp only
                rw [if_neg (by decide)]
                refine Ret.some ?_
                rw [decide_eq_false (fun z : SchP S => q1 (z.pr i i0 i1).l)]
            · intro next hp
              rw [if_neg (by simp)]
              exact Ret.some (decide_eq_true ⟨hb, by omega, e7, hp⟩).symm
        · rw [decide_eq_false (fun z : SchP S => e5 (decide_eq_true z.b.ti))]
      · rw [decide_eq_false (fun z : SchP S => e4 (decide_eq_true z.b.fi))]
  · rw [decide_eq_false (fun z : SchP S => e1 (by simpa using z.b.n0))]
end
end Go.Gx

/- The law of ApplyChanges. -/
namespace Go.Gx
open Classical
set_option maxHeartbeats 1000000

/-- Rows of a schema, where an arrow may lead nowhere (-1) yet. -/
structure WD (S : XSchema) (z : List Int) (m : List (List Int)) : Prop where
  zl : (z.length : Int) = S.Nodes
  zr : ∀ i, 0 ≤ i → i < S.Nodes → 0 ≤ el z i ∧ el z i ≤ 16
  ml : (m.length : Int) = (S.From.length : Int)
  mr : ∀ i, 0 ≤ i → i < (S.From.length : Int) → ((el m i).length : Int) = el z (el S.From i)
  me : ∀ i, 0 ≤ i → i < (S.From.length : Int) → ∀ k, 0 ≤ k → k < ((el m i).length : Int) → -1 ≤ el (el m i) k ∧ el (el m i) k < el z (el S.To i)
def NoGap (m : List (List Int)) : Prop := ∀ i, 0 ≤ i → i < (m.length : Int) → ∀ k, 0 ≤ k → k < ((el m i).length : Int) → 0 ≤ el (el m i) k
structure DataP (S : XSchema) (z : List Int) (m : List (List Int)) : Prop where
  w : WD S z m
  g : NoGap m

section
variable {S : XSchema} {z : List Int} {m : List (List Int)}
theorem WD.sz (h : WD S z m) (hS : Base S) : Small z := by
  have := h.zl; have := hS.n0; unfold Small; omega
theorem WD.sx (h : WD S z m) (hS : Base S) : SmallX m := by
  have a := h.ml; have b := hS.f8
  refine ⟨by unfold Small; omega, fun r hr => ?_⟩
  obtain ⟨i, i0, i1, rfl⟩ := mem_el hr
  have c := h.mr i i0 (by omega)
  have d := hS.fi i i0 (by omega)
  have e := h.zr _ d.1 d.2
  unfold Small; omega
theorem DataP.of (a : (z.length : Int) = S.Nodes) (b : (m.length : Int) = (S.From.length : Int)) (c : In 17 z)
    (d : ∀ i, 0 ≤ i → i < (m.length : Int) → ((el m i).length : Int) = el z (el S.From i) ∧ In (el z (el S.To i)) (el m i)) : DataP S z m := by
  refine ⟨⟨a, fun i i0 i1 => ?_, b, fun i i0 i1 => (d i i0 (by omega)).1, fun i i0 i1 k k0 k1 => ?_⟩, fun i i0 i1 k k0 k1 => ((d i i0 i1).2 k k0 k1).1⟩
  · have := c i i0 (by omega); omega
  · have := (d i i0 (by omega)).2 k k0 k1; omega
theorem DataP.i17 (h : DataP S z m) : In 17 z := fun i i0 i1 => by
  have a := h.w.zl; have := h.w.zr i i0 (by omega); omega
theorem DataP.im (h : DataP S z m) {i : Int} (i0 : 0 ≤ i) (i1 : i < (m.length : Int)) : In (el z (el S.To i)) (el m i) := fun k k0 k1 => by
  have a := h.w.ml
  exact ⟨h.g i i0 i1 k k0 k1, (h.w.me i i0 (by omega) k k0 k1).2⟩

theorem l36Data_eq (hS : Base S) (sz : Small z) (sm : SmallX m) : M.spec_l36Data S z m = some (decide (DataP S z m)) := by
  apply Ret.eq
  have f8 := hS.f8
  have tl := hS.tl
  unfold M.spec_l36Data
  refine Ret.ite (fun e1 => Ret.some ?_) (fun e1 => Ret.ite (fun e2 => Ret.some ?_) (fun e2 => ?_))
  · rw [decide_eq_false (fun h : DataP S z m => bne_iff_ne.1 e1 h.w.zl)]
  · rw [decide_eq_false (fun h : DataP S z m => bne_iff_ne.1 e2 h.w.ml)]
  · have e1 : (z.length : Int) = S.Nodes := Decidable.byContradiction fun z => e1 (bne_iff_ne.2 z)
    have e2 : (m.length : Int) = (S.From.length : Int) := Decidable.byContradiction fun z => e2 (bne_iff_ne.2 z)
    refine Ret.call (l01Map_eq sz) (Ret.ite (fun e3 => ?_) (fun e3 => Ret.some ?_))
    · have e3 := of_decide_eq_true e3
      refine Ret.all (m.length : Int) (fun i => ((el m i).length : Int) = el z (el S.From i) ∧ In (el z (el S.To i)) (el m i)) (by omega) (by omega) ?_ ?_
      · intro i next i0 i1 hp hn
        have fr := hS.fi i i0 (by omega)
        have to := hS.ti i i0 (by omega)
        rw [if_pos (decide_eq_true i1)]
        refine Ret.idx i0 i1 (Ret.idx i0 (by omega) (Ret.idx fr.1 (by omega) (Ret.ite (fun q => Ret.some ?_) (fun q => Ret.idx i0 (by omega) (Ret.idx to.1 (by omega) (Ret.call (l01Map_eq (sm.2 _ (el_mem i0 i1))) (Ret.ite (fun q2 => hn ⟨?_, of_decide_eq_true q2⟩) (fun q2 => Ret.some ?_))))))))
        · rw [decide_eq_false (fun h : DataP S z m => bne_iff_ne.1 q (h.w.mr i i0 (by omega)))]
        · exact Decidable.byContradiction fun z => q (bne_iff_ne.2 z)
        · rw [decide_eq_false (fun h : DataP S z m => q2 (decide_eq_true (h.im i0 i1)))]
      · intro next hp
        rw [if_neg (by simp)]
        exact Ret.some (decide_eq_true (DataP.of e1 e2 e3 hp)).symm
    · rw [decide_eq_false (fun h : DataP S z m => e3 (decide_eq_true h.i17))]

theorem hasRows_eq (hS : Base S) (sz : Small z) (sm : SmallX m) : M.impl_Schema_hasRows S z m = some (decide (DataP S z m)) := by
  apply Ret.eq
  have f8 := hS.f8
  have tl := hS.tl
  unfold M.impl_Schema_hasRows M.impl_fitting
  refine Ret.ite (fun e1 => Ret.some ?_) (fun e1 => ?_)
  · rw [decide_eq_false (fun h : DataP S z m => bne_iff_ne.1 e1 h.w.zl)]
  · have e1 : (z.length : Int) = S.Nodes := Decidable.byContradiction fun z => e1 (bne_iff_ne.2 z)
    rw [within_eq sz (by decide) (by decide), Option.bind_some, Option.bind_some]
    refine Ret.ite (fun e3 => Ret.ite (fun e2 => Ret.some ?_) (fun e2 => ?_)) (fun e3 => Ret.some ?_)
    · rw [decide_eq_false (fun h : DataP S z m => bne_iff_ne.1 e2 h.w.ml)]
    · have e3 := of_decide_eq_true e3
      have e2 : (m.length : Int) = (S.From.length : Int) := Decidable.byContradiction fun z => e2 (bne_iff_ne.2 z)
      refine Ret.all (m.length : Int) (fun i => ((el m i).length : Int) = el z (el S.From i) ∧ In (el z (el S.To i)) (el m i)) (by omega) (by omega) ?_ ?_
      · intro i next i0 i1 hp hn
        have fr := hS.fi i i0 (by omega)
        have to := hS.ti i i0 (by omega)
        have b := e3 _ to.1 (by omega)
        rw [if_pos (decide_eq_true i1)]
        refine Ret.idx i0 i1 (Ret.idx i0 (by omega) (Ret.idx fr.1 (by omega) (Ret.idx i0 (by omega) (Ret.idx to.1 (by omega) (Ret.call (isMapOf_eq (sm.2 _ (el_mem i0 i1)) (by omega) (by omega)) (Ret.ite (fun q2 => hn (of_decide_eq_true q2)) (fun q2 => Ret.some ?_)))))))
        rw [decide_eq_false (fun h : DataP S z m => q2 (decide_eq_true ⟨h.w.mr i i0 (by omega), h.im i0 i1⟩))]
      · intro next hp
        rw [if_neg (by simp)]
        exact Ret.some (decide_eq_true (DataP.of e1 e2 e3 hp)).symm
    · rw [decide_eq_false (fun h : DataP S z m => e3 (decide_eq_true h.i17))]

/-! ### walks -/
def wk (m : List (List Int)) (es : List Int) (x : Int) : Int := es.foldl (fun x e => el (el m e) x) x
theorem wk_take {m : List (List Int)} {es : List Int} {x i : Int} (i0 : 0 ≤ i) (i1 : i < (es.length : Int)) : wk m (es.take (i + 1).toNat) x = el (el m (el es i)) (wk m (es.take i.toNat) x) := by
  unfold wk
  rw [take_succ_el i0 i1, List.foldl_append]; rfl

theorem wk_in (h : DataP S z m) {p : XPath} (hp : PathP S p) {x i : Int} (x0 : 0 ≤ x) (x1 : x < el z p.Start) (i0 : 0 ≤ i) (i1 : i ≤ (p.Edges.length : Int)) :
    0 ≤ wk m (p.Edges.take i.toNat) x ∧ wk m (p.Edges.take i.toNat) x < el z (nd S p i) := by
  obtain ⟨k, rfl⟩ : ∃ k : Nat, i = k := ⟨i.toNat, by omega⟩
  induction k with
  | zero => exact ⟨x0, x1⟩
  | succ k ih =>
    have ih := ih (by omega) (by omega)
    have r := hp.ie (k : Int) (by omega) (by omega)
    have c := hp.ch (k : Int) (by omega) (by omega)
    have a := h.w.mr _ r.1 r.2
    have ml := h.w.ml
    push_cast
    rw [wk_take (by omega) (by omega), nd_succ (by omega)]
    exact h.im r.1 (by omega) _ ih.1 (by rw [a, c]; exact ih.2)

theorem l36Walk_eq (h : DataP S z m) {p : XPath} (hp : PathP S p) {x : Int} (x0 : 0 ≤ x) (x1 : x < el z p.Start) : M.spec_l36Walk m p.Edges x = some (wk m p.Edges x) := by
  apply Ret.eq
  have ln := hp.ln
  have ml := h.w.ml
  unfold M.spec_l36Walk
  refine Ret.acc (p.Edges.length : Int) (fun i s => s = wk m (p.Edges.take i.toNat) x) (by omega) (by omega) rfl ?_ ?_
  · rintro i s next i0 i1 rfl hn
    have w := wk_in h hp x0 x1 i0 (by omega)
    have r := hp.ie i i0 i1
    have a := h.w.mr _ r.1 r.2
    have c := hp.ch i i0 i1
    dsimp only
    rw [if_pos (decide_eq_true i1)]
    refine Ret.idx i0 i1 (Ret.idx r.1 (by omega) (Ret.idx w.1 (by rw [a, c]; exact w.2) (hn _ ?_)))
    rw [wk_take i0 i1]
  · rintro s next rfl
    dsimp only
    rw [if_neg (by simp), show ((p.Edges.length : Int)).toNat = p.Edges.length by omega, List.take_length]
    exact Ret.some rfl

theorem lead_eq (h : DataP S z m) {p : XPath} (hp : PathP S p) {x : Int} (x0 : 0 ≤ x) (x1 : x < el z p.Start) : M.impl_lead m p.Edges x = some (wk m p.Edges x) := by
  apply Ret.eq
  have ln := hp.ln
  have ml := h.w.ml
  unfold M.impl_lead
  refine Ret.loop (p.Edges.length : Int) (fun i s => s = (i, wk m (p.Edges.take i.toNat) x)) (by omega) (by omega) rfl ?_ ?_
  · rintro i s next i0 i1 rfl hn
    have w := wk_in h hp x0 x1 i0 (by omega)
    have r := hp.ie i i0 i1
    have a := h.w.mr _ r.1 r.2
    have c := hp.ch i i0 i1
    dsimp only
    rw [if_pos (decide_eq_true i1)]
    refine Ret.idx i0 i1 (Ret.idx r.1 (by omega) (Ret.idx w.1 (by rw [a, c]; exact w.2) (hn _ ?_)))
    rw [wk_take i0 i1, wrap_in (by omega) (by omega)]
  · rintro s next rfl
    dsimp only
    rw [if_neg (by simp), show ((p.Edges.length : Int)).toNat = p.Edges.length by omega, List.take_length]
    exact Ret.some rfl

def SameP (S : XSchema) (z : List Int) (m : List (List Int)) (i : Int) : Prop := ∀ x, 0 ≤ x → x < el z (el S.Left i).Start → wk m (el S.Left i).Edges x = wk m (el S.Right i).Edges x
def Comm (S : XSchema) (z : List Int) (m : List (List Int)) : Prop := ∀ i, 0 ≤ i → i < (S.Left.length : Int) → SameP S z m i

theorem l36Broken_r (hS : SchP S) (h : DataP S z m) : Ret (M.spec_l36Broken S z m) fun r => decide (r.1 < 0) = decide (Comm S z m) := by
  have l8 := hS.l8
  have rl := hS.rl
  have zl := h.w.zl
  unfold M.spec_l36Broken
  refine Ret.all (S.Left.length : Int) (fun i => SameP S z m i) (by omega) (by omega) ?_ ?_
  · intro i next i0 i1 hp hn
    have pr := hS.pr i i0 i1
    have st := pr.l.st
    have z16 := h.w.zr _ st.1 st.2
    rw [if_pos (decide_eq_true i1)]
    refine Ret.all (el z (el S.Left i).Start) (fun x => wk m (el S.Left i).Edges x = wk m (el S.Right i).Edges x) (by omega) (by omega) ?_ ?_
    · intro x nx x0 x1 hq hn2
      refine Ret.idx i0 i1 (Ret.idx st.1 (by omega) ?_)
      rw [if_pos (decide_eq_true x1)]
      refine Ret.call (l36Walk_eq h pr.l x0 x1) (Ret.idx i0 (by omega) (Ret.call (l36Walk_eq h pr.r x0 (by rw [← pr.st]; exact x1)) (Ret.ite (fun q => Ret.some ?_) (fun q => hn2 (Decidable.byContradiction fun w => q (bne_iff_ne.2 w))))))
      rw [decide_eq_false (show ¬ i < 0 by omega), decide_eq_false (fun w : Comm S z m => bne_iff_ne.1 q (w i i0 i1 x x0 x1))]
    · intro nx hq
      refine Ret.idx i0 i1 (Ret.idx st.1 (by omega) ?_)
      rw [if_neg (by simp)]
      exact hn hq
  · intro next hp
    rw [if_neg (by simp)]
    exact Ret.some (by rw [decide_eq_true (show Comm S z m from hp)]; rfl)

theorem broken_r (hS : SchP S) (h : DataP S z m) : Ret (M.impl_Schema_broken S z m) fun r => decide (r.1 < 0) = decide (Comm S z m) := by
  have l8 := hS.l8
  have rl := hS.rl
  have zl := h.w.zl
  unfold M.impl_Schema_broken
  refine Ret.all (S.Left.length : Int) (fun i => SameP S z m i) (by omega) (by omega) ?_ ?_
  · intro i next i0 i1 hp hn
    have pr := hS.pr i i0 i1
    have st := pr.l.st
    have z16 := h.w.zr _ st.1 st.2
    rw [if_pos (decide_eq_true i1)]
    refine Ret.idx i0 i1 (Ret.idx st.1 (by omega) ?_)
    refine Ret.all (el z (el S.Left i).Start) (fun x => wk m (el S.Left i).Edges x = wk m (el S.Right i).Edges x) (by omega) (by omega) ?_ ?_
    · intro x nx x0 x1 hq hn2
      rw [if_pos (decide_eq_true x1)]
      refine Ret.call (lead_eq h pr.l x0 x1) (Ret.idx i0 (by omega) (Ret.call (lead_eq h pr.r x0 (by rw [← pr.st]; exact x1)) (Ret.ite (fun q => Ret.some ?_) (fun q => hn2 (Decidable.byContradiction fun w => q (bne_iff_ne.2 w))))))
      rw [decide_eq_false (show ¬ i < 0 by omega), decide_eq_false (fun w : Comm S z m => bne_iff_ne.1 q (w i i0 i1 x x0 x1))]
    · intro nx hq
      rw [if_neg (by simp)]
      exact hn hq
  · intro next hp
    rw [if_neg (by simp)]
    exact Ret.some (by rw [decide_eq_true (show Comm S z m from hp)]; rfl)

/-- Rows that are whole: no arrow leads nowhere, and the paths agree. -/
def WholeP (S : XSchema) (z : List Int) (m : List (List Int)) : Prop := NoGap m ∧ Comm S z m

theorem l39Whole_eq (hS : SchP S) (h : WD S z m) : M.spec_l39Whole S (⟨z, m⟩ : Xl39Data) = some (decide (WholeP S z m)) := by
  apply Ret.eq
  have f8 := hS.b.f8
  have ml := h.ml
  have sx := h.sx hS.b
  unfold M.spec_l39Whole
  refine Ret.all (m.length : Int) (fun i => ∀ k, 0 ≤ k → k < ((el m i).length : Int) → 0 ≤ el (el m i) k) (by omega) (by omega) ?_ ?_
  · intro i next i0 i1 hp hn
    dsimp only
    rw [if_pos (decide_eq_true i1)]
    refine Ret.idx i0 i1 (Ret.call (l01Has_eq (sx.2 _ (el_mem i0 i1)) _) (Ret.ite (fun q => Ret.some ?_) (fun q => hn fun k k0 k1 => ?_)))
    · obtain ⟨k, k0, k1, e⟩ := mem_el (of_decide_eq_true q)
      rw [decide_eq_false (fun w : WholeP S z m => by have := w.1 i i0 i1 k k0 k1; omega)]
    · have a := h.me i i0 (by omega) k k0 k1
      have b : el (el m i) k ≠ -1 := fun w => q (decide_eq_true (by rw [← w]; exact el_mem k0 k1))
      omega
  · intro next hp
    dsimp only
    rw [if_neg (by simp)]
    refine Ret.bind (l36Broken_r hS ⟨h, hp⟩) fun r hr => Ret.some ?_
    rw [hr, Bool.eq_iff_iff, decide_eq_true_iff, decide_eq_true_iff]
    exact ⟨fun w => ⟨hp, w⟩, fun w => w.2⟩

theorem isWhole_eq (hS : SchP S) (h : WD S z m) : M.impl_data_isWhole (⟨z, m⟩ : Xdata) S = some (decide (WholeP S z m)) := by
  apply Ret.eq
  unfold M.impl_data_isWhole
  refine Ret.call (hasRows_eq hS.b (h.sz hS.b) (h.sx hS.b)) (Ret.ite (fun q => Ret.bind (broken_r hS (of_decide_eq_true q)) fun r hr => Ret.some ?_) (fun q => Ret.some ?_))
  · have q := of_decide_eq_true q
    rw [hr, Bool.eq_iff_iff, decide_eq_true_iff, decide_eq_true_iff]
    exact ⟨fun w => ⟨q.g, w⟩, fun w => w.2⟩
  · rw [decide_eq_false (fun w : WholeP S z m => q (decide_eq_true ⟨h, w.1⟩))]

/-! ### changes -/
def AddP (S : XSchema) (z : List Int) (c : XChange) : Prop := c.Second = 0 ∧ c.Third = 0 ∧ (0 ≤ c.First ∧ c.First < S.Nodes) ∧ el z c.First < 16
def SetP (S : XSchema) (z : List Int) (c : XChange) : Prop := (0 ≤ c.First ∧ c.First < (S.From.length : Int)) ∧ (0 ≤ c.Second ∧ c.Second < el z (el S.From c.First)) ∧ (0 ≤ c.Third ∧ c.Third < el z (el S.To c.First))
noncomputable def addM (S : XSchema) (m : List (List Int)) (n i : Int) : List (List Int) := tab (m.length : Int) fun k => if el S.From k = n ∧ k < i then el m k ++ [-1] else el m k
noncomputable def stepD (S : XSchema) (z : List Int) (m : List (List Int)) (c : XChange) : Option (List Int × List (List Int)) :=
  if c.Kind = 1 then
    if AddP S z c then some (z.set c.First.toNat (el z c.First + 1), addM S m c.First (S.From.length : Int)) else none
  else if c.Kind = 2 then
    if SetP S z c then some (z, m.set c.First.toNat ((el m c.First).set c.Second.toNat c.Third)) else none
  else none

theorem addM_zero (S : XSchema) (m : List (List Int)) (n : Int) : addM S m n 0 = m := by
  unfold addM
  conv => rhs; rw [← tab_el m]
  apply tab_congr
  intro k k0 k1
  rw [if_neg (by omega)]
theorem addM_pos {n i : Int} (i0 : 0 ≤ i) (h : el S.From i = n) : (addM S m n i).set i.toNat (el m i ++ [-1]) = addM S m n (i + 1) := by
  unfold addM
  rw [set_tab i0]
  apply tab_congr
  intro k k0 k1
  by_cases w : k = i
  · subst w; rw [if_pos rfl, if_pos ⟨h, by omega⟩]
  · rw [if_neg w]
    by_cases w2 : el S.From k = n ∧ k < i
    · rw [if_pos w2, if_pos ⟨w2.1, by omega⟩]
    · rw [if_neg w2, if_neg fun v => w2 ⟨v.1, by omega⟩]
theorem addM_neg {n i : Int} (h : el S.From i ≠ n) : addM S m n i = addM S m n (i + 1) := by
  unfold addM
  apply tab_congr
  intro k k0 k1
  by_cases w2 : el S.From k = n ∧ k < i
  · rw [if_pos w2, if_pos ⟨w2.1, by omega⟩]
  · rw [if_neg w2, if_neg fun v => w2 ⟨v.1, by
      have : k ≠ i := fun e => h (by rw [← e]; exact v.1)
      omega⟩]
theorem addM_el {n i k : Int} (k0 : 0 ≤ k) (k1 : k < (m.length : Int)) : el (addM S m n i) k = if el S.From k = n ∧ k < i then el m k ++ [-1] else el m k := by
  unfold addM; rw [el_tab k0 k1]
theorem addM_len (n i : Int) : ((addM S m n i).length : Int) = (m.length : Int) := by unfold addM; rw [tab_length]; omega
theorem el_app {l : List Int} {v k : Int} (k0 : 0 ≤ k) (k1 : k < ((l ++ [v]).length : Int)) : el (l ++ [v]) k = if k < (l.length : Int) then el l k else v := by
  unfold el
  rw [List.length_append, List.length_singleton] at k1
  rw [List.getD_eq_getElem?_getD, List.getD_eq_getElem?_getD]
  by_cases h : k < (l.length : Int)
  · rw [if_pos h, List.getElem?_append_left (by omega)]
  · rw [if_neg h, List.getElem?_append_right (by omega), show k.toNat - l.length = 0 by omega]; rfl

theorem step_wd (hS : Base S) (h : WD S z m) {c : XChange} {z' : List Int} {m' : List (List Int)} (e : stepD S z m c = some (z', m')) : WD S z' m' := by
  have zl := h.zl
  have ml := h.ml
  unfold stepD at e
  split at e
  · split at e
    · rename_i a
      obtain ⟨a1, a2, a3, a4⟩ := a
      obtain ⟨rfl, rfl⟩ := Prod.mk.inj (Option.some.inj e)
      have zs : ∀ i, 0 ≤ i → el (z.set c.First.toNat (el z c.First + 1)) i = if i = c.First then el z c.First + 1 else el z i := fun i i0 => el_set a3.1 (by omega) i0
      refine ⟨by rw [List.length_set]; exact zl, fun i i0 i1 => ?_, by rw [addM_len]; exact ml, fun i i0 i1 => ?_, fun i i0 i1 k k0 k1 => ?_⟩
      · have b := h.zr i i0 i1
        rw [zs i i0]
        split
        · subst_vars; omega
        · exact b
      · have b := h.mr i i0 i1
        have d := hS.fi i i0 i1
        rw [addM_el i0 (by omega), zs _ d.1]
        by_cases w : el S.From i = c.First
        · rw [if_pos ⟨w, i1⟩, if_pos w, List.length_append, List.length_singleton]
          rw [w] at b
          omega
        · rw [if_neg fun v => w v.1, if_neg w]; exact b
      · have b := h.me i i0 i1
        have d := hS.ti i i0 (by have := hS.tl; omega)
        have q : el z (el S.To i) ≤ el (z.set c.First.toNat (el z c.First + 1)) (el S.To i) := by
          rw [zs _ d.1]
          split
          · rename_i w; rw [w]; omega
          · omega
        have q0 := (h.zr _ d.1 d.2).1
        rw [addM_el i0 (by omega)] at k1 ⊢
        by_cases w : el S.From i = c.First ∧ i < (S.From.length : Int)
        · rw [if_pos w] at k1 ⊢
          rw [el_app k0 k1]
          split
          · have := b k k0 ‹_›; omega
          · omega
        · rw [if_neg w] at k1 ⊢
          have := b k k0 k1; omega
    · cases e
  · split at e
    · split at e
      · rename_i a
        obtain ⟨a1, a2, a3⟩ := a
        obtain ⟨rfl, rfl⟩ := Prod.mk.inj (Option.some.inj e)
        have ms : ∀ i, 0 ≤ i → el (m.set c.First.toNat ((el m c.First).set c.Second.toNat c.Third)) i = if i = c.First then (el m c.First).set c.Second.toNat c.Third else el m i := fun i i0 => el_set a1.1 (by omega) i0
        refine ⟨zl, h.zr, by rw [List.length_set]; exact ml, fun i i0 i1 => ?_, fun i i0 i1 k k0 k1 => ?_⟩
        · have b := h.mr i i0 i1
          rw [ms i i0]
          split
          · rename_i w; rw [List.length_set, ← w]; exact b
          · exact b
        · have b := h.me i i0 i1
          rw [ms i i0] at k1 ⊢
          by_cases w : i = c.First
          · subst w
            rw [if_pos rfl] at k1 ⊢
            rw [List.length_set] at k1
            have d := h.mr _ i0 i1
            rw [el_set a2.1 (by omega) k0]
            split
            · omega
            · exact b k k0 k1
          · rw [if_neg w] at k1 ⊢
            exact b k k0 k1
      · cases e
    · cases e
theorem outOf_eq (hS : Base S) (n : Int) : M.impl_Schema_outOf S n = some (fil (S.From.length : Int) fun k => decide (el S.From k = n)) := by
  apply Ret.eq
  have f8 := hS.f8
  unfold M.impl_Schema_outOf
  refine Ret.acc (S.From.length : Int) (fun i s => s = fil i fun k => decide (el S.From k = n)) (by omega) (by omega) rfl ?_ ?_
  · rintro i s next i0 i1 rfl hn
    have L := fil_length_le i fun k => decide (el S.From k = n)
    dsimp only
    rw [if_pos (decide_eq_true i1)]
    refine Ret.idx i0 i1 (Ret.ite (fun q => Ret.chk (by unfold lim; simp only [List.length_cons, List.length_nil]; omega) (hn _ ?_)) (fun q => hn _ ?_))
    · rw [fil_succ _ i0, if_pos (decide_eq_true (beq_iff_eq.1 q).symm)]
    · rw [fil_succ _ i0, if_neg (fun v => q (beq_iff_eq.2 (of_decide_eq_true v).symm)), List.append_nil]
  · rintro s next rfl
    dsimp only
    rw [if_neg (by simp)]
    exact Ret.some rfl

theorem l39Apply_eq (hS : Base S) (h : WD S z m) (c : XChange) :
    M.spec_l39Apply S (⟨z, m⟩ : Xl39Data) c = some (match stepD S z m c with | some (z', m') => ((⟨z', m'⟩ : Xl39Data), true) | none => ((⟨[], []⟩ : Xl39Data), false)) := by
  apply Ret.eq
  have n0 := hS.n0
  have f8 := hS.f8
  have tl := hS.tl
  have zl := h.zl
  have ml := h.ml
  have sx := h.sx hS
  unfold M.spec_l39Apply joinM
  refine Ret.call (own_eq (h.sz hS)) (Ret.call (own2_eq sx.1 sx.2) ?_)
  dsimp only
  by_cases k1 : c.Kind = 1
  · have k2 : (c.Kind == 2) = false := by rw [k1]; rfl
    have no : ¬ AddP S z c → Ret (some ((⟨[], []⟩ : Xl39Data), false)) fun r => r = match stepD S z m c with | some (z', m') => ((⟨z', m'⟩ : Xl39Data), true) | none => ((⟨[], []⟩ : Xl39Data), false) := by
      intro w
      refine Ret.some ?_
      unfold stepD
      rw [if_pos k1, if_neg w]
    simp only [k2, Bool.false_eq_true, if_false]
    rw [if_pos (beq_iff_eq.2 k1)]
    refine Ret.ite (fun q1 => Ret.ite (fun q2 => Ret.call (l01R_eq n0.1 (by omega)) (Ret.ite (fun q3 => ?_) (fun q3 => no fun w => q3 (decide_eq_true w.2.2.1)))) (fun q2 => no fun w => q2 (beq_iff_eq.2 w.2.1))) (fun q1 => no fun w => q1 (beq_iff_eq.2 w.1))
    have q1 := beq_iff_eq.1 q1
    have q2 := beq_iff_eq.1 q2
    have q3 := of_decide_eq_true q3
    refine Ret.idx q3.1 (by omega) (Ret.ite (fun q4 => Ret.idx q3.1 (by omega) ?_) (fun q4 => no fun w => q4 (decide_eq_true w.2.2.2)))
    have q4 := of_decide_eq_true q4
    have zr := h.zr _ q3.1 q3.2
    refine Ret.acc (S.From.length : Int) (fun i s => s = addM S m c.First i) (by omega) (by omega) (addM_zero S m _).symm ?_ ?_
    · rintro i s next i0 i1 rfl hn
      dsimp only
      rw [if_pos (decide_eq_true i1)]
      refine Ret.idx i0 i1 (Ret.ite (fun q => ?_) (fun q => hn _ ?_))
      · have sm := sx.2 _ (el_mem (l := m) i0 (by omega))
        refine Ret.idx i0 (by omega) (Ret.call (own_eq sm) (Ret.chk ?_ (Ret.idx i0 (by rw [addM_len]; omega) (hn _ ?_))))
        · unfold lim; unfold Small at sm; simp only [List.length_cons, List.length_nil]; omega
        · exact addM_pos i0 (beq_iff_eq.1 q)
      · exact addM_neg fun w => q (beq_iff_eq.2 w)
    · rintro s next rfl
      dsimp only
      rw [if_neg (by simp)]
      refine Ret.some ?_
      unfold stepD
      rw [if_pos k1, if_pos (show AddP S z c from ⟨q1, q2, q3, q4⟩), wrap_in (by omega) (by omega)]
  · rw [if_neg fun w => k1 (beq_iff_eq.1 w)]
    refine Ret.ite (fun q0 => ?_) (fun q0 => Ret.some ?_)
    · have q0 := beq_iff_eq.1 q0
      have no : ¬ SetP S z c → Ret (some ((⟨[], []⟩ : Xl39Data), false)) fun r => r = match stepD S z m c with | some (z', m') => ((⟨z', m'⟩ : Xl39Data), true) | none => ((⟨[], []⟩ : Xl39Data), false) := by
        intro w
        refine Ret.some ?_
        unfold stepD
        rw [if_neg k1, if_pos q0, if_neg w]
      refine Ret.call (l01R_eq (by omega) (by omega)) (Ret.ite (fun q1 => ?_) (fun q1 => no fun w => q1 (decide_eq_true w.1)))
      have q1 := of_decide_eq_true q1
      have fr := hS.fi _ q1.1 q1.2
      have to := hS.ti _ q1.1 (by omega)
      have zf := h.zr _ fr.1 fr.2
      have zt := h.zr _ to.1 to.2
      have mr := h.mr _ q1.1 q1.2
      refine Ret.idx q1.1 q1.2 (Ret.idx fr.1 (by omega) (Ret.call (l01R_eq zf.1 (by omega)) (Ret.ite (fun q2 => ?_) (fun q2 => no fun w => q2 (decide_eq_true w.2.1)))))
      have q2 := of_decide_eq_true q2
      refine Ret.idx q1.1 (by omega) (Ret.idx to.1 (by omega) (Ret.call (l01R_eq zt.1 (by omega)) (Ret.ite (fun q3 => ?_) (fun q3 => no fun w => q3 (decide_eq_true w.2.2)))))
      have q3 := of_decide_eq_true q3
      refine Ret.idx q1.1 (by omega) (Ret.idx q2.1 (by omega) (Ret.some ?_))
      unfold stepD
      rw [if_neg k1, if_pos q0, if_pos (show SetP S z c from ⟨q1, q2, q3⟩)]
    · unfold stepD
      rw [if_neg k1, if_neg fun w => q0 (beq_iff_eq.2 w)]

theorem nodup_take {l : List Int} (hd : l.Nodup) {j : Int} (j0 : 0 ≤ j) (j1 : j < (l.length : Int)) : el l j ∉ l.take j.toNat := by
  intro h
  obtain ⟨i, i0, i1, e⟩ := mem_el h
  rw [List.length_take] at i1
  have q : el (l.take j.toNat) i = el l i := by
    unfold el
    rw [List.getD_eq_getElem?_getD, List.getD_eq_getElem?_getD, List.getElem?_take_of_lt (by omega)]
  rw [q] at e
  have a := List.pairwise_iff_getElem.1 (show List.Pairwise (fun a b => a ≠ b) l from hd) i.toNat j.toNat (by omega) (by omega) (by omega)
  obtain ⟨x, rfl⟩ : ∃ k : Nat, i = k := ⟨i.toNat, by omega⟩
  obtain ⟨y, rfl⟩ : ∃ k : Nat, j = k := ⟨j.toNat, by omega⟩
  rw [el_get (by omega), el_get (by omega)] at e
  exact a e

theorem apply_eq (hS : Base S) (h : WD S z m) (c : XChange) :
    M.impl_data_apply (⟨z, m⟩ : Xdata) S c = some (match stepD S z m c with | some (z', m') => (true, (⟨z', m'⟩ : Xdata)) | none => (false, (⟨z, m⟩ : Xdata))) := by
  apply Ret.eq
  have n0 := hS.n0
  have f8 := hS.f8
  have tl := hS.tl
  have zl := h.zl
  have ml := h.ml
  have sx := h.sx hS
  have no : stepD S z m c = none → Ret (some (false, (⟨z, m⟩ : Xdata))) fun r => r = match stepD S z m c with | some (z', m') => (true, (⟨z', m'⟩ : Xdata)) | none => (false, (⟨z, m⟩ : Xdata)) := by
    intro w
    refine Ret.some ?_
    rw [w]
  have isC : M.impl_Change_isChange c = some (if c.Kind = 1 then decide (c.Second = 0 ∧ c.Third = 0) else decide (c.Kind = 2)) := by
    unfold M.impl_Change_isChange
    simp only [beq_iff_eq]
    by_cases k1 : c.Kind = 1 <;> by_cases a : c.Second = 0 <;> by_cases b : c.Third = 0 <;> by_cases k2 : c.Kind = 2 <;> simp [k1, a, b, k2]
  unfold M.impl_data_apply
  refine Ret.call isC ?_
  dsimp only
  by_cases k1 : c.Kind = 1
  · have no : ¬ AddP S z c → Ret (some (false, (⟨z, m⟩ : Xdata))) fun r => r = match stepD S z m c with | some (z', m') => (true, (⟨z', m'⟩ : Xdata)) | none => (false, (⟨z, m⟩ : Xdata)) := by
      intro w
      refine no ?_
      unfold stepD
      rw [if_pos k1, if_neg w]
    rw [if_pos k1]
    refine Ret.ite (fun q => ?_) (fun q => no fun w => q (decide_eq_true ⟨w.1, w.2.1⟩))
    have q := of_decide_eq_true q
    rw [if_pos (beq_iff_eq.2 k1)]
    refine Ret.call (inR0_eq n0.1 (by omega)) (Ret.ite (fun q3 => ?_) (fun q3 => no fun w => q3 (decide_eq_true w.2.2.1)))
    have q3 := of_decide_eq_true q3
    have zr := h.zr _ q3.1 q3.2
    refine Ret.idx q3.1 (by omega) (Ret.ite (fun q4 => no fun w => ?_) (fun q4 => ?_))
    · have := beq_iff_eq.1 q4
      have := w.2.2.2
      omega
    have q4 : el z c.First ≠ 16 := fun w => q4 (beq_iff_eq.2 w)
    refine Ret.call (outOf_eq hS _) ?_
    have L := fil_length_le (S.From.length : Int) fun k => decide (el S.From k = c.First)
    -- the rows that are longer after j rounds
    refine Ret.acc ((fil (S.From.length : Int) fun k => decide (el S.From k = c.First)).length : Int)
      (fun j s => (s.length : Int) = (m.length : Int) ∧ ∀ k, 0 ≤ k → k < (m.length : Int) → el s k = if k ∈ (fil (S.From.length : Int) fun k => decide (el S.From k = c.First)).take j.toNat then el m k ++ [-1] else el m k) (by omega) (by omega) ⟨rfl, fun k k0 k1 => by rw [if_neg (by simp)]⟩ ?_ ?_
    · rintro j s next j0 j1 ⟨hl, hs⟩ hn
      have me := fil_mem.1 (el_mem j0 j1)
      have nd : (fil (S.From.length : Int) fun k => decide (el S.From k = c.First)).Nodup := fil_nodup _ _
      have nin : el (fil (S.From.length : Int) fun k => decide (el S.From k = c.First)) j ∉ (fil (S.From.length : Int) fun k => decide (el S.From k = c.First)).take j.toNat := nodup_take nd j0 j1
      have sj := hs _ me.1 (by omega)
      rw [if_neg nin] at sj
      have sm := sx.2 _ (el_mem (l := m) me.1 (by omega))
      unfold Small at sm
      dsimp only
      rw [if_pos (decide_eq_true j1)]
      refine Ret.idx j0 j1 (Ret.idx me.1 (by omega) (Ret.chk ?_ (hn _ ⟨?_, ?_⟩)))
      · rw [sj]; unfold lim; simp only [List.length_cons, List.length_nil]; omega
      · rw [List.length_set]; exact hl
      · intro k k0 k1
        rw [el_set me.1 (by omega) k0, take_succ_el j0 j1]
        by_cases w : k = el (fil (S.From.length : Int) fun k => decide (el S.From k = c.First)) j
        · rw [if_pos w, if_pos (by rw [w]; simp), sj, w]
        · rw [if_neg w, hs k k0 k1]
          simp only [List.mem_append, List.mem_singleton, w, or_false]
    · rintro s next ⟨hl, hs⟩
      dsimp only
      rw [if_neg (by simp)]
      refine Ret.some ?_
      have es : s = addM S m c.First (S.From.length : Int) := by
        refine list_ext (by have := addM_len (S := S) (m := m) c.First (S.From.length : Int); omega) fun k k0 k1 => ?_
        rw [hs k k0 (by omega), addM_el k0 (by omega)]
        rw [show (((fil (S.From.length : Int) fun k => decide (el S.From k = c.First)).length : Int)).toNat = (fil (S.From.length : Int) fun k => decide (el S.From k = c.First)).length by omega, List.take_length]
        by_cases w : el S.From k = c.First
        · rw [if_pos (fil_mem.2 ⟨k0, by omega, decide_eq_true w⟩), if_pos ⟨w, by omega⟩]
        · rw [if_neg (fun v => w (of_decide_eq_true (fil_mem.1 v).2.2)), if_neg fun v => w v.1]
      unfold stepD
      rw [if_pos k1, if_pos (show AddP S z c from ⟨q.1, q.2, q3, by omega⟩), wrap_in (by omega) (by omega), es]
  · rw [if_neg k1]
    refine Ret.ite (fun q0 => ?_) (fun q0 => no ?_)
    · have q0 := of_decide_eq_true q0
      rw [if_neg fun w => k1 (beq_iff_eq.1 w)]
      have no : ¬ SetP S z c → Ret (some (false, (⟨z, m⟩ : Xdata))) fun r => r = match stepD S z m c with | some (z', m') => (true, (⟨z', m'⟩ : Xdata)) | none => (false, (⟨z, m⟩ : Xdata)) := by
        intro w
        refine no ?_
        unfold stepD
        rw [if_neg k1, if_pos q0, if_neg w]
      refine Ret.call (inR0_eq (by omega) (by omega)) (Ret.ite (fun q1 => ?_) (fun q1 => no fun w => q1 (decide_eq_true w.1)))
      have q1 := of_decide_eq_true q1
      have fr := hS.fi _ q1.1 q1.2
      have to := hS.ti _ q1.1 (by omega)
      have zf := h.zr _ fr.1 fr.2
      have zt := h.zr _ to.1 to.2
      have mr := h.mr _ q1.1 q1.2
      refine Ret.idx q1.1 q1.2 (Ret.idx fr.1 (by omega) (Ret.call (inR0_eq zf.1 (by omega)) (Ret.ite (fun q2 => ?_) (fun q2 => no fun w => q2 (decide_eq_true w.2.1)))))
      have q2 := of_decide_eq_true q2
      refine Ret.idx q1.1 (by omega) (Ret.idx to.1 (by omega) (Ret.call (inR0_eq zt.1 (by omega)) (Ret.ite (fun q3 => ?_) (fun q3 => no fun w => q3 (decide_eq_true w.2.2)))))
      have q3 := of_decide_eq_true q3
      refine Ret.idx q1.1 (by omega) (Ret.idx q2.1 (by omega) (Ret.some ?_))
      unfold stepD
      rw [if_neg k1, if_pos q0, if_pos (show SetP S z c from ⟨q1, q2, q3⟩)]
    · unfold stepD
      rw [if_neg k1, if_neg fun w => q0 (decide_eq_true w)]

/-- All changes, one behind the other. -/
noncomputable def runD (S : XSchema) (z : List Int) (m : List (List Int)) (cs : List XChange) : Option (List Int × List (List Int)) := cs.foldlM (fun d c => stepD S d.1 d.2 c) (z, m)
theorem runD_take {cs : List XChange} {i : Int} (i0 : 0 ≤ i) (i1 : i < (cs.length : Int)) : runD S z m (cs.take (i + 1).toNat) = (runD S z m (cs.take i.toNat)).bind fun d => stepD S d.1 d.2 (el cs i) := by
  unfold runD
  rw [take_succ_el i0 i1, List.foldlM_append]
  cases List.foldlM (fun d c => stepD S d.1 d.2 c) (z, m) (cs.take i.toNat) with
  | none => rfl
  | some d =>
    show List.foldlM (fun d c => stepD S d.1 d.2 c) d [el cs i] = stepD S d.1 d.2 (el cs i)
    simp
theorem runD_none {cs : List XChange} {i : Nat} (h : runD S z m (cs.take i) = none) : runD S z m cs = none := by
  unfold runD at h ⊢
  conv => lhs; rw [← List.take_append_drop i cs]
  rw [List.foldlM_append, h]; rfl

/-- What both answer: the data after the changes, and whether they are whole. -/
def AllR (S : XSchema) (z : List Int) (m : List (List Int)) (cs : List XChange) (z' : List Int) (m' : List (List Int)) (b : Bool) : Prop :=
  (runD S z m cs = none ∧ b = false) ∨ (runD S z m cs = some (z', m') ∧ b = decide (WholeP S z' m') ∧ WD S z' m')

theorem l39All_r (hS : SchP S) (h : WD S z m) {cs : List XChange} (hc : (cs.length : Int) ≤ 40) : Ret (M.spec_l39All S (⟨z, m⟩ : Xl39Data) cs) fun r => AllR S z m cs r.1.sizes_ r.1.maps_ r.2 := by
  unfold M.spec_l39All
  refine Ret.loop (cs.length : Int) (fun i s => s.2.2 = i ∧ runD S z m (cs.take i.toNat) = some (s.1, s.2.1) ∧ WD S s.1 s.2.1) (by omega) (by omega) ⟨rfl, rfl, h⟩ ?_ ?_
  · rintro i ⟨a, b, i'⟩ next i0 i1 ⟨rfl, hr, hw⟩ hn
    dsimp only at i0 i1 hr hw ⊢
    rw [if_pos (decide_eq_true i1)]
    have e := runD_take (S := S) (z := z) (m := m) i0 i1
    rw [hr, Option.bind_some] at e
    refine Ret.idx i0 i1 (Ret.call (l39Apply_eq hS.b hw _) ?_)
    dsimp only at e
    cases q : stepD S a b (el cs i') with
    | none =>
      dsimp only
      rw [if_neg (by decide)]
      refine Ret.some (Or.inl ⟨?_, rfl⟩)
      rw [q] at e
      exact runD_none e
    | some d =>
      obtain ⟨a', b'⟩ := d
      dsimp only
      rw [if_pos rfl]
      rw [q] at e
      exact hn _ ⟨wrap_in (by omega) (by omega), e, step_wd hS.b hw q⟩
  · rintro ⟨a, b, i'⟩ next ⟨rfl, hr, hw⟩
    dsimp only at hr hw ⊢
    rw [if_neg (by simp), if_pos (decide_eq_true hc)]
    rw [show ((cs.length : Int)).toNat = cs.length by omega, List.take_length] at hr
    exact Ret.call (l39Whole_eq hS hw) (Ret.some (Or.inr ⟨hr, rfl, hw⟩))

theorem after_r (hS : SchP S) (h : WD S z m) {cs : List XChange} (hc : (cs.length : Int) ≤ 40) : Ret (M.impl_data_after (⟨z, m⟩ : Xdata) S cs) fun r => AllR S z m cs r.1.sizes_ r.1.maps_ r.2 := by
  have sx := h.sx hS.b
  unfold M.impl_data_after M.impl_data_copy
  rw [clone_eq (h.sz hS.b), clones_eq sx.1 sx.2, Option.bind_some, Option.bind_some, Option.bind_some]
  refine Ret.loop (cs.length : Int) (fun i s => s.2.2 = i ∧ runD S z m (cs.take i.toNat) = some (s.1, s.2.1) ∧ WD S s.1 s.2.1) (by omega) (by omega) ⟨rfl, rfl, h⟩ ?_ ?_
  · rintro i ⟨a, b, i'⟩ next i0 i1 ⟨rfl, hr, hw⟩ hn
    dsimp only at i0 i1 hr hw ⊢
    rw [if_pos (decide_eq_true i1)]
    have e := runD_take (S := S) (z := z) (m := m) i0 i1
    rw [hr, Option.bind_some] at e
    refine Ret.idx i0 i1 (Ret.call (apply_eq hS.b hw _) ?_)
    dsimp only at e
    cases q : stepD S a b (el cs i') with
    | none =>
      dsimp only
      rw [if_neg (by decide)]
      refine Ret.some (Or.inl ⟨?_, rfl⟩)
      rw [q] at e
      exact runD_none e
    | some d =>
      obtain ⟨a', b'⟩ := d
      dsimp only
      rw [if_pos rfl]
      rw [q] at e
      exact hn _ ⟨wrap_in (by omega) (by omega), e, step_wd hS.b hw q⟩
  · rintro ⟨a, b, i'⟩ next ⟨rfl, hr, hw⟩
    dsimp only at hr hw ⊢
    rw [if_neg (by simp)]
    rw [show ((cs.length : Int)).toNat = cs.length by omega, List.take_length] at hr
    exact Ret.call (isWhole_eq hS hw) (Ret.some (Or.inr ⟨hr, rfl, hw⟩))

theorem ApplyChanges_both {cs : List XChange} (sS : SmallH S) (sz : Small z) (sm : SmallX m) (_ : Small cs) :
    ∃ g0 g1 w, Small g0 ∧ SmallX g1 ∧ M.spec_ApplyChanges S z m cs = some (g0, g1, w) ∧ M.impl_ApplyChanges S z m cs = some (g0, g1, w) := by
  have bad : ∀ w : Int, M.spec_ApplyChanges S z m cs = some ([], [], w) → M.impl_ApplyChanges S z m cs = some ([], [], w) →
      ∃ g0 g1 w, Small g0 ∧ SmallX g1 ∧ M.spec_ApplyChanges S z m cs = some (g0, g1, w) ∧ M.impl_ApplyChanges S z m cs = some (g0, g1, w) :=
    fun w a b => ⟨[], [], w, by simp, SmallX.nil, a, b⟩
  by_cases hS : SchP S
  · by_cases hD : DataP S z m
    · by_cases hc : (cs.length : Int) > 40
      · refine bad 2 ?_ ?_
        · unfold M.spec_ApplyChanges
          rw [IsSchema_eq sS, decide_eq_true hS, Option.bind_some, if_pos rfl, l36Data_eq hS.b sz sm, decide_eq_true hD, Option.bind_some, if_pos rfl, if_pos (decide_eq_true hc)]
        · unfold M.impl_ApplyChanges
          rw [isSchema_eq sS, decide_eq_true hS, Option.bind_some, if_pos rfl, hasRows_eq hS.b sz sm, decide_eq_true hD, Option.bind_some, if_pos rfl, if_pos (decide_eq_true hc)]
      · have e1 : ∀ x, M.spec_l39Whole S (⟨z, m⟩ : Xl39Data) = some x → M.spec_ApplyChanges S z m cs = if x then
            (M.spec_l39All S (⟨z, m⟩ : Xl39Data) cs).bind fun v10 =>
            if v10.2 then
              (M.spec_l01Own v10.1.sizes_).bind fun v12 =>
              (M.spec_l01Own2 v10.1.maps_).bind fun v13 =>
              some (v12, v13, 0)
            else
              some (([] : List Int), ([] : List (List Int)), 5)
          else some (([] : List Int), ([] : List (List Int)), 5) := by
          intro x ex
          unfold M.spec_ApplyChanges
          rw [IsSchema_eq sS, decide_eq_true hS, Option.bind_some, if_pos rfl, l36Data_eq hS.b sz sm, decide_eq_true hD, Option.bind_some, if_pos rfl, if_neg (fun w => hc (of_decide_eq_true w)), own_eq sz, Option.bind_some, own2_eq sm.1 sm.2, Option.bind_some, ex, Option.bind_some]
        have e2 : M.impl_ApplyChanges S z m cs = (M.impl_data_after (⟨z, m⟩ : Xdata) S cs).bind fun v6 =>
            if v6.2 then
              (M.impl_data_isWhole (⟨z, m⟩ : Xdata) S).bind fun v8 =>
              if v8 then
                some (v6.1.sizes_, v6.1.maps_, 0)
              else
                some (([] : List Int), ([] : List (List Int)), 5)
            else
              some (([] : List Int), ([] : List (List Int)), 5) := by
          unfold M.impl_ApplyChanges
          rw [isSchema_eq sS, decide_eq_true hS, Option.bind_some, if_pos rfl, hasRows_eq hS.b sz sm, decide_eq_true hD, Option.bind_some, if_pos rfl, if_neg (fun w => hc (of_decide_eq_true w))]
        have e1 := e1 _ (l39Whole_eq hS hD.w)
        rw [isWhole_eq hS hD.w] at e2
        obtain ⟨⟨⟨a, b⟩, p⟩, ea, ha⟩ := l39All_r hS hD.w (cs := cs) (by omega)
        obtain ⟨⟨⟨a', b'⟩, p'⟩, eb, hb⟩ := after_r hS hD.w (cs := cs) (by omega)
        rw [ea, Option.bind_some] at e1
        rw [eb, Option.bind_some] at e2
        dsimp only at ha hb e1 e2
        rw [e1, e2]
        rcases ha with ⟨n1, rfl⟩ | ⟨n1, rfl, w1⟩
        · rcases hb with ⟨n2, rfl⟩ | ⟨n2, _, _⟩
          · refine ⟨[], [], 5, by simp, SmallX.nil, ?_, ?_⟩ <;> simp
          · rw [n1] at n2; cases n2
        · rcases hb with ⟨n2, _⟩ | ⟨n2, rfl, w2⟩
          · rw [n1] at n2; cases n2
          · rw [n1] at n2
            obtain ⟨rfl, rfl⟩ := Prod.mk.inj (Option.some.inj n2)
            have sa := w1.sz hS.b
            have sb := w1.sx hS.b
            rw [own_eq sa, own2_eq sb.1 sb.2]
            by_cases x : WholeP S z m <;> by_cases y : WholeP S a b
            · exact ⟨a, b, 0, sa, sb, by simp [x, y], by simp [x, y]⟩
            · exact ⟨[], [], 5, by simp, SmallX.nil, by simp [x, y], by simp [y]⟩
            · exact ⟨[], [], 5, by simp, SmallX.nil, by simp [x], by simp [x, y]⟩
            · exact ⟨[], [], 5, by simp, SmallX.nil, by simp [x], by simp [y]⟩
    · refine bad 2 ?_ ?_
      · unfold M.spec_ApplyChanges
        rw [IsSchema_eq sS, decide_eq_true hS, Option.bind_some, if_pos rfl, l36Data_eq hS.b sz sm, decide_eq_false hD, Option.bind_some, if_neg (by decide)]
      · unfold M.impl_ApplyChanges
        rw [isSchema_eq sS, decide_eq_true hS, Option.bind_some, if_pos rfl, hasRows_eq hS.b sz sm, decide_eq_false hD, Option.bind_some, if_neg (by decide)]
  · refine bad 1 ?_ ?_
    · unfold M.spec_ApplyChanges
      rw [IsSchema_eq sS, decide_eq_false hS, Option.bind_some, if_neg (by decide)]
    · unfold M.impl_ApplyChanges
      rw [isSchema_eq sS, decide_eq_false hS, Option.bind_some, if_neg (by decide)]
end

theorem law_ApplyChanges {a0 : XSchema} {a1 : List Int} {a2 : List (List Int)} {a3 : List XChange} (h0 : R.XSchema a0) (_ : AllL I64 a1) (h2 : AllL (AllL I64) a2) (h3 : AllL R.XChange a3) : M.laws_FnExactApplyChanges a0 a1 a2 a3 = some true := by
  unfold M.laws_FnExactApplyChanges
  by_cases z1 : (a1.length : Int) > 1048576
  · rw [if_pos (decide_eq_true z1)]
  · rw [if_neg (fun h => absurd (of_decide_eq_true h) z1)]
    have s1 : Small a1 := by unfold Small; omega
    obtain ⟨v0, e0, hv0⟩ := szSchema_r (n := 1048576) (by decide) (by decide) (fitsH h0)
    rw [e0, Option.bind_some]
    rcases hv0 with ⟨z0, _⟩ | ⟨l0, u0, s0⟩
    · rw [if_pos (decide_eq_true z0)]
    · rw [if_neg (fun h => absurd (of_decide_eq_true h) (by omega))]
      obtain ⟨v2, e2, hv2⟩ := szX_r (n := v0) l0 (by omega) h2
      rw [e2, Option.bind_some]
      rcases hv2 with ⟨z2, _⟩ | ⟨l2, u2, s2⟩
      · rw [if_pos (decide_eq_true z2)]
      · rw [if_neg (fun h => absurd (of_decide_eq_true h) (by omega))]
        obtain ⟨v3, e3, hv3⟩ := szChangeS_r (n := v2) l2 (by omega) h3.1
        rw [e3, Option.bind_some]
        rcases hv3 with ⟨z3, _⟩ | ⟨l3, u3, s3⟩
        · rw [if_pos (decide_eq_true z3)]
        · rw [if_neg (fun h => absurd (of_decide_eq_true h) (by omega))]
          rw [toSchema_eq s0, Option.bind_some, toInt64S_eq s1, Option.bind_some, toInt64SS_eq s2.1 s2.2, Option.bind_some, toChangeS_eq s3, Option.bind_some]
          obtain ⟨g0, g1, w, hg0, hg1, es, ei⟩ := ApplyChanges_both s0 s1 s2 s3
          rw [es, ei]
          simp only [Option.bind_some]
          rw [eqInt64S_refl hg0, eqInt64SS_reflX hg1, eqSchema_refl s0, eqInt64S_refl s1, eqInt64SS_reflX s2, eqChangeS_refl s3]
          obtain ⟨n0, x0, p0, q0, c0⟩ := mk_H s0 1 (by omega) (by omega)
          obtain ⟨n1, x1, p1, q1, c1, d1, _⟩ := mh_S s1 (1 + n0) (by omega) (by omega)
          obtain ⟨n2, x2, p2, q2, c2, d2, _⟩ := mh_X s2 (1 + n0 + n1) (by omega) (by omega)
          obtain ⟨n3, x3, p3, q3, c3⟩ := mk_D s3 (1 + n0 + n1 + n2) (by omega) (by omega)
          obtain ⟨n4, x4, p4, q4, c4, d4, _⟩ := mh_S hg0 1 (by omega) (by omega)
          obtain ⟨n5, x5, p5, q5, c5, d5, _⟩ := mh_X hg1 (1 + n4) (by omega) (by omega)
          simp only [Option.bind_some, bne_self_eq_false, Bool.false_eq_true, if_false, if_true, decide_eq_true_eq, c0, c1, c2, c3, c4, c5, d4, d5]
          rw [if_neg (by omega), if_neg (by omega), if_neg (by omega)]
end Go.Gx
