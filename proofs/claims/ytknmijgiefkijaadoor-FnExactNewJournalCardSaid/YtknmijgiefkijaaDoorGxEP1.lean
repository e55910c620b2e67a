/- Laid together: part 1. -/
import Derived.Test.YtknmijgiefkijaaDoorGxEP0
import Derived.Test.YtknmijgiefkijaaDoorGxEM0
import Derived.Test.YtknmijgiefkijaaDoorGxEM1
/- Plain laws: inverses, isomorphisms among arrows. -/
namespace Go.Gx
open Classical
set_option maxHeartbeats 1000000

end Go.Gx

/- Plain laws: objects and arrows of a category, in range. -/
namespace Go.Gx
open Classical
set_option maxHeartbeats 1000000

end Go.Gx

/- Plain laws: universal arrows. -/
namespace Go.Gx
open Classical
set_option maxHeartbeats 1000000

/-! ### lists without doubles -/
theorem fil_nodup (n : Int) (p : Int → Bool) : (fil n p).Nodup := by
  unfold fil
  refine List.Pairwise.filter _ ?_
  rw [List.pairwise_map]
  exact (show List.Pairwise (fun a b : Nat => a ≠ b) (List.range n.toNat) from List.nodup_range).imp fun h e => h (by omega)
/-! ### a map's keys -/
/-- What a map holds after the first i values. -/
structure Keys (l : List Int) (m : List (Int × Bool)) : Prop where
  mem : ∀ k, k ∈ m.map (·.1) ↔ k ∈ l
  le : m.length ≤ l.length
  eq : m.length = l.length ↔ l.Nodup
/-! ### universal arrows -/
abbrev lftL (f : XFunctor) (x z e g : Int) : List Int := (homL f.Source x z).filter fun u => cmp f.Target (el f.Arrows u) e == g
def Univ (f : XFunctor) (y z e : Int) : Prop := ∀ x, 0 ≤ x → x < f.Source.Objects → ∀ g ∈ homL f.Target (el f.Objects x) y, ((lftL f x z e g).length : Int) = 1

/-- What is found: the first universal arrow to y. -/
def Found (f : XFunctor) (y : Int) (r : Int × Int × Bool) : Prop :=
  (r.2.2 = true ∧ 0 ≤ r.1 ∧ r.1 < f.Source.Objects ∧ (∀ x, 0 ≤ x → x < r.1 → ∀ g ∈ homL f.Target (el f.Objects x) y, ¬ Univ f y x g) ∧
    ∃ j, 0 ≤ j ∧ j < ((homL f.Target (el f.Objects r.1) y).length : Int) ∧ r.2.1 = el (homL f.Target (el f.Objects r.1) y) j ∧ Univ f y r.1 r.2.1 ∧ ∀ k, 0 ≤ k → k < j → ¬ Univ f y r.1 (el (homL f.Target (el f.Objects r.1) y) k)) ∨
  (r = (0, 0, false) ∧ ∀ x, 0 ≤ x → x < f.Source.Objects → ∀ g ∈ homL f.Target (el f.Objects x) y, ¬ Univ f y x g)

theorem Found.one {f : XFunctor} {y : Int} {r s : Int × Int × Bool} (hr : Found f y r) (hs : Found f y s) : r = s := by
  obtain ⟨r1, r2, r3⟩ := r
  obtain ⟨s1, s2, s3⟩ := s
  rcases hr with ⟨a1, a2, a3, a4, j, j0, j1, j2, j3, j4⟩ | ⟨a1, a2⟩ <;> rcases hs with ⟨b1, b2, b3, b4, k, k0, k1, k2, k3, k4⟩ | ⟨b1, b2⟩
  · dsimp only at *
    have e1 : r1 = s1 := by
      rcases Int.lt_trichotomy r1 s1 with h | h | h
      · exact absurd j3 (b4 r1 a2 h r2 (j2 ▸ el_mem j0 j1))
      · exact h
      · exact absurd k3 (a4 s1 b2 h s2 (k2 ▸ el_mem k0 k1))
    subst e1
    have e2 : j = k := by
      rcases Int.lt_trichotomy j k with h | h | h
      · exact absurd j3 (j2 ▸ k4 j j0 h)
      · exact h
      · exact absurd k3 (k2 ▸ j4 k k0 h)
    subst e2
    rw [j2, k2, a1, b1]
  · dsimp only at *
    exact absurd j3 (b2 r1 a2 a3 r2 (j2 ▸ el_mem j0 j1))
  · dsimp only at *
    exact absurd k3 (a2 s1 b2 b3 s2 (k2 ▸ el_mem k0 k1))
  · rw [a1, b1]

end Go.Gx

/- Plain laws: products of categories. -/
namespace Go.Gx
open Classical
set_option maxHeartbeats 2000000

theorem mulb {i j n m : Int} (i0 : 0 ≤ i) (h : i < n) (h0 : 0 ≤ j) (h1 : j < m) : 0 ≤ i * m ∧ i * m + j < n * m ∧ i * m + m ≤ n * m := by
  have e1 : (i + 1) * m ≤ n * m := Int.mul_le_mul_of_nonneg_right (by omega) (by omega)
  rw [Int.add_mul, Int.one_mul] at e1
  have e2 := Int.mul_nonneg i0 (show 0 ≤ m by omega)
  omega
theorem mulB {n m N M : Int} (h0 : 0 ≤ n) (h1 : n ≤ N) (h2 : 0 ≤ m) (h3 : m ≤ M) : 0 ≤ n * m ∧ n * m ≤ N * M :=
  ⟨Int.mul_nonneg h0 h2, Int.mul_le_mul h1 h3 h2 (by omega)⟩
theorem parts {k n m : Int} (h0 : 0 ≤ k) (h1 : k < n * m) (hm : 0 ≤ m) : 0 < m ∧ 0 ≤ k / m ∧ k / m < n ∧ 0 ≤ k % m ∧ k % m < m := by
  have hm : 0 < m := by
    rcases Int.lt_or_eq_of_le hm with h | h
    · exact h
    · rw [← h, Int.mul_zero] at h1; omega
  exact ⟨hm, Int.ediv_nonneg h0 (by omega), Int.ediv_lt_of_lt_mul hm h1, Int.emod_nonneg _ (by omega), Int.emod_lt_of_pos _ hm⟩
/-- Two numbers as one, over all pairs. -/
abbrev tab2 {α : Type} (n m : Int) (f : Int → Int → α) : List α := tab (n * m) fun k => f (k / m) (k % m)
theorem tab_len' (n : Int) {α : Type} (f : Int → α) (h : 0 ≤ n) : ((tab n f).length : Int) = n := by rw [tab_length]; omega

end Go.Gx

/- Plain laws: the product as impl makes it; projections. -/
namespace Go.Gx
open Classical
set_option maxHeartbeats 2000000

end Go.Gx

/- Plain laws: pairs of lists; products of functors. -/
namespace Go.Gx
open Classical
set_option maxHeartbeats 1000000

abbrev pairF (a b : List Int) (n : Int) (i j : Int) : Int := el a i * n + el b j
def pairL (a b : List Int) (n : Int) : List Int := tab2 (a.length : Int) (b.length : Int) (pairF a b n)
/-- Codes of pairs are small numbers. -/
structure PairOk (a b : List Int) (n A : Int) : Prop where
  hA : A ≤ 40
  hn : n ≤ 40
  la : (a.length : Int) ≤ 40
  lb : (b.length : Int) ≤ 40
  ia : In A a
  ib : In n b

theorem PairOk.len {a b : List Int} {n A : Int} (h : PairOk a b n A) {i j : Int} (i0 : 0 ≤ i) (i1 : i < (a.length : Int)) (j0 : 0 ≤ j) (j1 : j < (b.length : Int)) (F : Int → Int) :
    ((tab (i * (b.length : Int) + j) F).length : Int) ≤ 1600 := by
  have hb1 := mulb i0 i1 j0 j1
  have hB := mulB (n := (a.length : Int)) (m := (b.length : Int)) (N := 40) (M := 40) (by omega) h.la (by omega) h.lb
  rw [tab_len' _ _ (by omega)]; omega
theorem PairOk.small {a b : List Int} {n A : Int} (h : PairOk a b n A) : Small (pairL a b n) := by
  have hB := mulB (n := (a.length : Int)) (m := (b.length : Int)) (N := 40) (M := 40) (by omega) h.la (by omega) h.lb
  unfold Small pairL; rw [tab_len' _ _ hB.1]; omega

end Go.Gx

/- Plain laws: places in lists; full parts of a category. -/
namespace Go.Gx
open Classical
set_option maxHeartbeats 1000000

/-! ### places -/
/-! ### full parts -/
noncomputable def fullL (c : XCategory) (o : List Int) : List Int := fil (c.From.length : Int) fun f => decide (el c.From f ∈ o) && decide (el c.To f ∈ o)
theorem fullL_mem {c : XCategory} {o : List Int} {f : Int} : f ∈ fullL c o ↔ 0 ≤ f ∧ f < (c.From.length : Int) ∧ el c.From f ∈ o ∧ el c.To f ∈ o := by
  unfold fullL
  rw [fil_mem, Bool.and_eq_true, decide_eq_true_iff, decide_eq_true_iff]
/-- A choice of objects: those that pass. -/
structure Pick (c : XCategory) (o : List Int) : Prop where
  s : Shp c
  e : o = fil c.Objects fun x => decide (x ∈ o)
theorem Pick.nodup {c : XCategory} {o : List Int} (h : Pick c o) : o.Nodup := by rw [h.e]; exact fil_nodup _ _
theorem Pick.len {c : XCategory} {o : List Int} (h : Pick c o) : (o.length : Int) ≤ c.Objects := by
  have h1 := fil_length_le c.Objects fun x => decide (x ∈ o)
  have n0 := h.s.n0
  have := congrArg List.length h.e
  omega
theorem Pick.id {c : XCategory} {o : List Int} (h : Pick c o) {x : Int} (x0 : 0 ≤ x) (x1 : x < c.Objects) : el c.Identity x ∈ fullL c o ↔ x ∈ o := by
  have i := h.s.id_in x x0 x1
  rw [fullL_mem, h.s.id_from x x0 x1, h.s.id_to x x0 x1]
  exact ⟨fun y => y.2.2.1, fun y => ⟨i.1, i.2, y, y⟩⟩
end Go.Gx

/- Plain laws: labels and their classes; elements that are joined. -/
namespace Go.Gx
open Classical
set_option maxHeartbeats 1000000

/-! ### the least equivalence -/
inductive Eqv (P : Int → Int → Prop) : Int → Int → Prop
  | of {x y : Int} : P x y → Eqv P x y
  | refl (x : Int) : Eqv P x x
  | symm {x y : Int} : Eqv P x y → Eqv P y x
  | trans {x y z : Int} : Eqv P x y → Eqv P y z → Eqv P x z

theorem Eqv.mono {P Q : Int → Int → Prop} (h : ∀ x y, P x y → Eqv Q x y) {x y : Int} (e : Eqv P x y) : Eqv Q x y := by
  induction e with
  | of p => exact h _ _ p
  | refl x => exact .refl x
  | symm _ ih => exact .symm ih
  | trans _ _ ih1 ih2 => exact .trans ih1 ih2
theorem Eqv.congr {P Q : Int → Int → Prop} (h : ∀ x y, P x y → Eqv Q x y) (h' : ∀ x y, Q x y → Eqv P x y) {x y : Int} : Eqv P x y ↔ Eqv Q x y := ⟨Eqv.mono h, Eqv.mono h'⟩
/-- An equivalence that holds where P does. -/
theorem Eqv.into {P : Int → Int → Prop} {f : Int → Int} (h : ∀ x y, P x y → f x = f y) {x y : Int} (e : Eqv P x y) : f x = f y := by
  induction e with
  | of p => exact h _ _ p
  | refl x => rfl
  | symm _ ih => exact ih.symm
  | trans _ _ ih1 ih2 => exact ih1.trans ih2
theorem Eqv.add {P : Int → Int → Prop} {p q i j : Int} : Eqv (fun x y => P x y ∨ (x = p ∧ y = q)) i j ↔ Eqv P i j ∨ (Eqv P i p ∧ Eqv P q j) ∨ (Eqv P i q ∧ Eqv P p j) := by
  constructor
  · intro e
    induction e with
    | of h =>
      rcases h with h | ⟨rfl, rfl⟩
      · exact .inl (.of h)
      · exact .inr (.inl ⟨.refl _, .refl _⟩)
    | refl x => exact .inl (.refl x)
    | symm _ ih =>
      rcases ih with h | ⟨h, k⟩ | ⟨h, k⟩
      · exact .inl h.symm
      · exact .inr (.inr ⟨k.symm, h.symm⟩)
      · exact .inr (.inl ⟨k.symm, h.symm⟩)
    | trans _ _ ih1 ih2 =>
      rcases ih1 with h | ⟨h, k⟩ | ⟨h, k⟩
      · rcases ih2 with h' | ⟨h', k'⟩ | ⟨h', k'⟩
        · exact .inl (h.trans h')
        · exact .inr (.inl ⟨h.trans h', k'⟩)
        · exact .inr (.inr ⟨h.trans h', k'⟩)
      · rcases ih2 with h' | ⟨h', k'⟩ | ⟨h', k'⟩
        · exact .inr (.inl ⟨h, k.trans h'⟩)
        · exact .inr (.inl ⟨h, k'⟩)
        · exact .inl (h.trans k')
      · rcases ih2 with h' | ⟨h', k'⟩ | ⟨h', k'⟩
        · exact .inr (.inr ⟨h, k.trans h'⟩)
        · exact .inl (h.trans k')
        · exact .inr (.inr ⟨h, k'⟩)
  · have up : ∀ {a b}, Eqv P a b → Eqv (fun x y => P x y ∨ (x = p ∧ y = q)) a b := fun h => Eqv.mono (fun x y z => .of (.inl z)) h
    have pq : Eqv (fun x y => P x y ∨ (x = p ∧ y = q)) p q := .of (.inr ⟨rfl, rfl⟩)
    rintro (h | ⟨h, k⟩ | ⟨h, k⟩)
    · exact up h
    · exact (up h).trans (pq.trans (up k))
    · exact (up h).trans (pq.symm.trans (up k))

/-- f tells R apart on 0 .. n - 1. -/
def Ker (n : Int) (f : Int → Int) (R : Int → Int → Prop) : Prop := ∀ i j, 0 ≤ i → i < n → 0 ≤ j → j < n → (f i = f j ↔ R i j)

theorem Ker.congr {n : Int} {f : Int → Int} {R S : Int → Int → Prop} (h : Ker n f R) (e : ∀ i j, R i j ↔ S i j) : Ker n f S := fun i j i0 i1 j0 j1 => (h i j i0 i1 j0 j1).trans (e i j)
theorem Ker.none {n : Int} {f : Int → Int} (h : ∀ i j, 0 ≤ i → i < n → 0 ≤ j → j < n → f i = f j → i = j) : Ker n f (Eqv fun _ _ => False) := by
  intro i j i0 i1 j0 j1
  constructor
  · intro e; rw [h i j i0 i1 j0 j1 e]; exact .refl _
  · intro e; exact congrArg f (Eqv.into (f := fun x => x) (fun _ _ h => h.elim) e)
/-! ### labels numbered in the order in which they come -/
theorem least {p : Int → Prop} : ∀ (k : Nat), p (k : Int) → ∃ i : Int, 0 ≤ i ∧ i ≤ (k : Int) ∧ p i ∧ ∀ j, 0 ≤ j → j < i → ¬ p j := by
  intro k
  induction k using Nat.strongRecOn with
  | ind k ih =>
    intro hk
    by_cases h : ∃ j : Nat, j < k ∧ p (j : Int)
    · obtain ⟨j, hj, pj⟩ := h
      obtain ⟨i, i0, i1, pi, hi⟩ := ih j hj pj
      exact ⟨i, i0, by omega, pi, hi⟩
    · refine ⟨(k : Int), by omega, by omega, hk, fun j j0 j1 pj => h ⟨j.toNat, by omega, ?_⟩⟩
      rwa [show ((j.toNat : Nat) : Int) = j by omega]

section
variable {l : List Int}
end

/-! ### a forest whose roots are the least of their classes -/
structure UF (j : List Int) (ρ : Int → Int) : Prop where
  up : ∀ x, 0 ≤ x → x < (j.length : Int) → 0 ≤ el j x ∧ el j x ≤ x
  st : ∀ x, 0 ≤ x → x < (j.length : Int) → ρ (el j x) = ρ x
  fx : ∀ x, 0 ≤ x → x < (j.length : Int) → el j x = x → ρ x = x
  lo : ∀ x, 0 ≤ x → x < (j.length : Int) → 0 ≤ ρ x ∧ ρ x ≤ x
  ix : ∀ x, 0 ≤ x → x < (j.length : Int) → ρ (ρ x) = ρ x

theorem el_set {α : Type} [Inhabited α] {l : List α} {i k : Int} {v : α} (i0 : 0 ≤ i) (i1 : i < (l.length : Int)) (k0 : 0 ≤ k) : el (l.set i.toNat v) k = if k = i then v else el l k := by
  unfold el
  rw [List.getD_eq_getElem?_getD, List.getD_eq_getElem?_getD, List.getElem?_set]
  by_cases h : k = i
  · subst h; rw [if_pos rfl, if_pos (by omega), if_pos rfl]; rfl
  · rw [if_neg (by omega), if_neg h]

section
variable {j : List Int} {ρ : Int → Int}
theorem UF.start (n : Int) : UF (tab n fun x => x) (fun x => x) := by
  refine ⟨?_, ?_, ?_, ?_, ?_⟩ <;> intro x x0 x1 <;> (try rw [tab_length] at x1) <;> (try rw [el_tab x0 (by omega)]) <;> try omega
theorem UF.join (h : UF j ρ) {M m : Int} (M0 : 0 ≤ M) (M1 : M < (j.length : Int)) (m0 : 0 ≤ m) (hm : m ≤ M) (rM : ρ M = M) (rm : ρ m = m) :
    UF (j.set M.toNat m) (fun x => if ρ x = M then m else ρ x) := by
  have L : ((j.set M.toNat m).length : Int) = (j.length : Int) := by rw [List.length_set]
  refine ⟨?_, ?_, ?_, ?_, ?_⟩ <;> intro y y0 y1 <;> rw [L] at y1
  · rw [el_set M0 M1 y0]; split
    · omega
    · exact h.up y y0 y1
  · rw [el_set M0 M1 y0]; split
    · subst_vars; rw [rm, rM, if_pos rfl]; split <;> rfl
    · rw [h.st y y0 y1]
  · rw [el_set M0 M1 y0]; split
    · subst_vars; intro e; rw [rM, if_pos rfl]; exact e
    · rename_i hy
      intro e
      rw [h.fx y y0 y1 e, if_neg hy]
  · have := h.lo y y0 y1
    split <;> omega
  · have := h.lo y y0 y1
    by_cases e : ρ y = M
    · rw [if_pos e, rm]; split <;> rfl
    · rw [if_neg e, h.ix y y0 y1, if_neg e]
end
end Go.Gx

/- Plain laws: schemas and changes: sizes, copies, marks. -/
namespace Go.Gx
open Classical
set_option maxHeartbeats 1000000

instance : Inhabited XPath := ⟨⟨0, []⟩⟩
instance : Inhabited XChange := ⟨⟨0, 0, 0, 0⟩⟩

structure FitsPS (l : List XPath) : Prop where
  f1 : Fits l
  f2 : ∀ p ∈ l, Fits p.Edges
structure SmallPS (l : List XPath) : Prop where
  s1 : Small l
  s2 : ∀ p ∈ l, Small p.Edges
structure FitsH (s : XSchema) : Prop where
  f1 : Fits s.From
  f2 : Fits s.To
  f3 : FitsPS s.Left
  f4 : FitsPS s.Right
structure SmallH (s : XSchema) : Prop where
  s1 : Small s.From
  s2 : Small s.To
  s3 : SmallPS s.Left
  s4 : SmallPS s.Right
theorem fitsPS {l : List XPath} (h : AllL R.XPath l) : FitsPS l := ⟨h.1, fun p hp => (h.2 p hp).2.1⟩
theorem fitsH {s : XSchema} (h : R.XSchema s) : FitsH s := ⟨h.2.1.1, h.2.2.1.1, fitsPS h.2.2.2.1, fitsPS h.2.2.2.2⟩

theorem szPath_r {p : XPath} {n : Int} (h0 : 0 ≤ n) (h1 : n ≤ 1048576) (h : Fits p.Edges) :
    Ret (M.laws_szPath p n) fun r => (r < 0 ∧ r = -1) ∨ (0 ≤ r ∧ r ≤ n ∧ Small p.Edges) := by
  unfold M.laws_szPath
  simp only [decide_eq_true_eq]
  (repeat' (first | with_reducible refine Ret.pos ‹_› ?_ | with_reducible refine Ret.neg ‹_› ?_ | with_reducible refine Ret.neg (Int.lt_irrefl _) ?_ | with_reducible refine Ret.ite (fun _ => ?_) (fun _ => ?_) | with_reducible refine Ret.idx ?_ ?_ ?_ | with_reducible refine Ret.chk ?_ ?_ | with_reducible refine hn3 ?_ | with_reducible refine hn2 ?_ | with_reducible refine hn1 ?_ | with_reducible refine hn3 _ ?_ | with_reducible refine hn2 _ ?_ | with_reducible refine hn1 _ ?_ | with_reducible refine Ret.bind (szInt64S_r ?_ ?_ ?_) fun v hv => ?_ | with_reducible refine Ret.some ?_))
  all_goals first | assumption | omega | (refine Or.inl ⟨by omega, rfl⟩) | (refine Or.inr ⟨by omega, by omega, ?_⟩; grind)

theorem szPathS_r {l : List XPath} {n : Int} (h0 : 0 ≤ n) (h1 : n ≤ 1048576) (h : FitsPS l) :
    Ret (M.laws_szPathS l n) fun r => (r < 0 ∧ r = -1) ∨ (0 ≤ r ∧ r ≤ n ∧ SmallPS l) := by
  obtain ⟨hl, hr⟩ := h
  unfold M.laws_szPathS
  rw [wrap_in (by omega) (by omega)]
  refine Ret.ite (fun _ => Ret.some (Or.inl ⟨by decide, rfl⟩)) (fun e => ?_)
  have e := of_decide_eq_false (Bool.eq_false_iff.2 e)
  refine Ret.acc (l.length : Int) (fun i a => 0 ≤ a ∧ a ≤ n ∧ ∀ j, 0 ≤ j → j < i → Small (el l j).Edges) (by omega) (by omega) ⟨by omega, by omega, fun j h0 h1 => by omega⟩ ?_ ?_
  · intro i a next hi0 hi1 hp hn1
    dsimp only
    rw [if_pos (decide_eq_true hi1)]
    refine Ret.idx hi0 hi1 (Ret.bind (szPath_r hp.1 (by omega) (hr _ (el_mem hi0 hi1))) fun v hv => Ret.ite (fun _ => Ret.some (Or.inl ⟨by decide, rfl⟩)) (fun e2 => ?_))
    have e2 := of_decide_eq_false (Bool.eq_false_iff.2 e2)
    rcases hv with ⟨z, _⟩ | ⟨v0, v1, vs⟩
    · omega
    · refine hn1 _ ⟨v0, by omega, fun j j0 j1 => ?_⟩
      by_cases w : j = i
      · subst w; exact vs
      · exact hp.2.2 j j0 (by omega)
  · intro a next hp
    dsimp only
    rw [if_neg (by simp)]
    refine Ret.some (Or.inr ⟨hp.1, hp.2.1, ⟨by unfold Small; omega, fun x hx => ?_⟩⟩)
    obtain ⟨i, h0, h1, rfl⟩ := mem_el hx
    exact hp.2.2 i h0 h1

theorem szSchema_r {s : XSchema} {n : Int} (h0 : 0 ≤ n) (h1 : n ≤ 1048576) (h : FitsH s) :
    Ret (M.laws_szSchema s n) fun r => (r < 0 ∧ r = -1) ∨ (0 ≤ r ∧ r ≤ n ∧ SmallH s) := by
  obtain ⟨g1, g2, g3, g4⟩ := h
  unfold M.laws_szSchema
  simp only [decide_eq_true_eq]
  (repeat' (first | with_reducible refine Ret.pos ‹_› ?_ | with_reducible refine Ret.neg ‹_› ?_ | with_reducible refine Ret.neg (Int.lt_irrefl _) ?_ | with_reducible refine Ret.ite (fun _ => ?_) (fun _ => ?_) | with_reducible refine Ret.idx ?_ ?_ ?_ | with_reducible refine Ret.chk ?_ ?_ | with_reducible refine hn3 ?_ | with_reducible refine hn2 ?_ | with_reducible refine hn1 ?_ | with_reducible refine hn3 _ ?_ | with_reducible refine hn2 _ ?_ | with_reducible refine hn1 _ ?_ | with_reducible refine Ret.bind (szInt64S_r ?_ ?_ ?_) fun v hv => ?_ | with_reducible refine Ret.bind (szPathS_r ?_ ?_ ?_) fun v hv => ?_ | with_reducible refine Ret.some ?_))
  all_goals first | assumption | omega | (refine Or.inl ⟨by omega, rfl⟩) | (refine Or.inr ⟨by omega, by omega, ⟨?_, ?_, ?_, ?_⟩⟩ <;> grind)

/-! ### copies -/
theorem toPath_eq {p : XPath} (h : Small p.Edges) : M.laws_toPath p = some p := by
  unfold M.laws_toPath
  rw [toInt64S_eq h]; rfl

theorem toPathS_eq {l : List XPath} (h : SmallPS l) : M.laws_toPathS l = some l := by
  apply Ret.eq
  have s1 := h.s1
  unfold Small at s1
  unfold M.laws_toPathS
  refine Ret.chk ⟨by omega, by unfold lim; omega⟩ ?_
  refine Ret.acc (l.length : Int) (fun i a => a = tab (l.length : Int) fun j => if j < i then el l j else ⟨0, []⟩) (by omega) (by omega) ?_ ?_ ?_
  · rw [rep_tab]; apply tab_congr; intro j h0 h1; rw [if_neg (by omega)]
  · rintro i a next hi0 hi1 rfl hn1
    dsimp only
    rw [if_pos (decide_eq_true hi1)]
    refine Ret.idx hi0 hi1 (Ret.call (toPath_eq (h.s2 _ (el_mem hi0 hi1))) (Ret.idx hi0 (by rw [tab_length]; omega) (hn1 _ ?_)))
    exact set_copy hi0 hi1
  · rintro a next rfl
    dsimp only
    rw [if_neg (by simp)]
    refine Ret.some ?_
    conv => rhs; rw [← tab_el l]
    apply tab_congr; intro j h0 h1; rw [if_pos h1]

theorem toSchema_eq {s : XSchema} (h : SmallH s) : M.laws_toSchema s = some s := by
  unfold M.laws_toSchema
  rw [toInt64S_eq h.s1, toInt64S_eq h.s2, toPathS_eq h.s3, toPathS_eq h.s4]; rfl

theorem eqPathS_refl {l : List XPath} (h : SmallPS l) : M.laws_eqPathS l l = some true := by
  apply Ret.eq
  have s1 := h.s1
  unfold Small at s1
  unfold M.laws_eqPathS
  rw [if_neg (by simp)]
  refine Ret.all (l.length : Int) (fun _ => True) (by omega) (by omega) ?_ ?_
  · intro i next hi0 hi1 hp hn1
    rw [if_pos (decide_eq_true hi1)]
    refine Ret.idx hi0 hi1 (Ret.idx hi0 hi1 ?_)
    have e : M.laws_eqPath (el l i) (el l i) = some true := by
      unfold M.laws_eqPath
      rw [eqInt64S_refl (h.s2 _ (el_mem hi0 hi1))]; simp
    exact Ret.call e (hn1 trivial)
  · intro next hp
    rw [if_neg (by simp)]
    exact Ret.some rfl

theorem eqSchema_refl {s : XSchema} (h : SmallH s) : M.laws_eqSchema s s = some true := by
  unfold M.laws_eqSchema
  rw [eqInt64S_refl h.s1, eqInt64S_refl h.s2, eqPathS_refl h.s3, eqPathS_refl h.s4]; simp

/-! ### marks -/
end Go.Gx

/- Plain laws: schemas, data, walks, changes. -/
namespace Go.Gx
open Classical
set_option maxHeartbeats 1000000

theorem l01R_eq {y n : Int} (h0 : 0 ≤ n) (h8 : n ≤ 1048576) : M.spec_l01In y 0 (IntKind.i64.wrap (n - 1)) = some (decide (0 ≤ y ∧ y < n)) := by
  rw [l01In_eq, wrap_in (by omega) (by omega)]
  congr 1
  rw [Bool.eq_iff_iff]
  simp only [Bool.and_eq_true, decide_eq_true_eq]
  omega
theorem inR0_eq {y n : Int} (h0 : 0 ≤ n) (h8 : n ≤ 1048576) : M.impl_inRange y 0 (IntKind.i64.wrap (n - 1)) = some (decide (0 ≤ y ∧ y < n)) := by
  rw [inRange_eq, wrap_in (by omega) (by omega)]
  congr 1
  rw [Bool.eq_iff_iff]
  simp only [Bool.and_eq_true, decide_eq_true_eq]
  omega

/-- The node at which a path stands after k edges. -/
noncomputable def nd (S : XSchema) (p : XPath) (k : Int) : Int := if k = 0 then p.Start else el S.To (el p.Edges (k - 1))
structure PathP (S : XSchema) (p : XPath) : Prop where
  st : 0 ≤ p.Start ∧ p.Start < S.Nodes
  ln : (p.Edges.length : Int) ≤ 6
  ie : In (S.From.length : Int) p.Edges
  ch : ∀ k, 0 ≤ k → k < (p.Edges.length : Int) → el S.From (el p.Edges k) = nd S p k
noncomputable def endP (S : XSchema) (p : XPath) : Int := nd S p (p.Edges.length : Int)

structure Base (S : XSchema) : Prop where
  n0 : 0 ≤ S.Nodes ∧ S.Nodes ≤ 8
  f8 : (S.From.length : Int) ≤ 8
  tl : (S.To.length : Int) = (S.From.length : Int)
  fi : In S.Nodes S.From
  ti : In S.Nodes S.To

section
variable {S : XSchema} {p : XPath}
theorem nd_succ {k : Int} (h : 0 ≤ k) : nd S p (k + 1) = el S.To (el p.Edges k) := by
  unfold nd
  rw [if_neg (by omega), show k + 1 - 1 = k by omega]

theorem l36Path_eq (h : Base S) (sp : Small p.Edges) : M.spec_l36Path S p = some (decide (PathP S p)) := by
  apply Ret.eq
  have n0 := h.n0
  have f8 := h.f8
  have tl := h.tl
  unfold M.spec_l36Path
  refine Ret.call (l01R_eq n0.1 (by omega)) (Ret.ite (fun e1 => ?_) (fun e1 => Ret.some ?_))
  · have e1 := of_decide_eq_true e1
    refine Ret.ite (fun e2 => Ret.some ?_) (fun e2 => ?_)
    · have e2 := of_decide_eq_true e2
      rw [decide_eq_false (fun z : PathP S p => by have := z.ln; omega)]
    · have e2 := of_decide_eq_false (Bool.eq_false_iff.2 e2)
      refine Ret.call (l01Map_eq sp) (Ret.ite (fun e3 => ?_) (fun e3 => Ret.some ?_))
      · have e3 := of_decide_eq_true e3
        refine Ret.loop (p.Edges.length : Int) (fun i s => s = (nd S p i, i) ∧ ∀ k, 0 ≤ k → k < i → el S.From (el p.Edges k) = nd S p k) (by omega) (by omega) ⟨rfl, fun k k0 k1 => by omega⟩ ?_ ?_
        · rintro i s next i0 i1 ⟨rfl, hp⟩ hn
          have r := e3 i i0 i1
          dsimp only
          rw [if_pos (decide_eq_true i1)]
          refine Ret.idx i0 i1 (Ret.idx r.1 r.2 (Ret.ite (fun q => Ret.some ?_) (fun q => Ret.idx r.1 (by omega) (hn _ ⟨?_, ?_⟩))))
          · rw [decide_eq_false (fun z : PathP S p => bne_iff_ne.1 q (z.ch i i0 i1))]
          · rw [nd_succ i0, wrap_in (by omega) (by omega)]
          · intro k k0 k1
            by_cases w : k = i
            · subst w; exact Decidable.byContradiction fun z => q (bne_iff_ne.2 z)
            · exact hp k k0 (by omega)
        · rintro s next ⟨rfl, hp⟩
          dsimp only
          rw [if_neg (by simp)]
          exact Ret.some (decide_eq_true ⟨e1, by omega, e3, hp⟩).symm
      · rw [decide_eq_false (fun z : PathP S p => e3 (decide_eq_true z.ie))]
  · rw [decide_eq_false (fun z : PathP S p => e1 (decide_eq_true z.st))]

theorem l36End_eq (h : Base S) (hp : PathP S p) : M.spec_l36End S p = some (endP S p) := by
  apply Ret.eq
  have ln := hp.ln
  have tl := h.tl
  unfold M.spec_l36End
  refine Ret.ite (fun e => Ret.some ?_) (fun e => ?_)
  · have e := beq_iff_eq.1 e
    unfold endP nd
    rw [if_pos e]
  · have e : (p.Edges.length : Int) ≠ 0 := fun z => e (beq_iff_eq.2 z)
    rw [wrap_in (by omega) (by omega)]
    have r := hp.ie ((p.Edges.length : Int) - 1) (by omega) (by omega)
    refine Ret.idx (by omega) (by omega) (Ret.idx r.1 (by omega) (Ret.some ?_))
    unfold endP nd
    rw [if_neg e]

theorem end_eq (h : Base S) (sp : Small p.Edges) : M.impl_Schema_end S p = some (if PathP S p then (endP S p, true) else (0, false)) := by
  apply Ret.eq
  have n0 := h.n0
  have f8 := h.f8
  have tl := h.tl
  unfold M.impl_Schema_end M.impl_Schema_follow
  refine Ret.call (inR0_eq n0.1 (by omega)) (Ret.ite (fun e1 => ?_) (fun e1 => Ret.some ?_))
  · have e1 := of_decide_eq_true e1
    refine Ret.ite (fun e2 => Ret.some ?_) (fun e2 => ?_)
    · have e2 := of_decide_eq_true e2
      rw [if_neg (fun z : PathP S p => by have := z.ln; omega)]
    · have e2 := of_decide_eq_false (Bool.eq_false_iff.2 e2)
      have key : Ret (M.impl_Schema_follow S p.Start p.Edges) fun r => r = if PathP S p then (endP S p, true) else (0, false) := by
        unfold M.impl_Schema_follow
        refine Ret.loop (p.Edges.length : Int) (fun i s => s = (nd S p i, i) ∧ ∀ k, 0 ≤ k → k < i → (0 ≤ el p.Edges k ∧ el p.Edges k < (S.From.length : Int)) ∧ el S.From (el p.Edges k) = nd S p k) (by omega) (by omega) ⟨rfl, fun k k0 k1 => by omega⟩ ?_ ?_
        · rintro i s next i0 i1 ⟨rfl, hp⟩ hn
          dsimp only
          rw [if_pos (decide_eq_true i1)]
          refine Ret.idx i0 i1 (Ret.call (inR0_eq (by omega) (by omega)) (Ret.ite (fun e3 => ?_) (fun e3 => Ret.some ?_)))
          · have r := of_decide_eq_true e3
            refine Ret.idx r.1 r.2 (Ret.ite (fun q => Ret.some ?_) (fun q => Ret.idx r.1 (by omega) (hn _ ⟨?_, ?_⟩)))
            · rw [if_neg (fun z : PathP S p => bne_iff_ne.1 q (z.ch i i0 i1))]
            · rw [nd_succ i0, wrap_in (by omega) (by omega)]
            · intro k k0 k1
              by_cases w : k = i
              · subst w; exact ⟨r, Decidable.byContradiction fun z => q (bne_iff_ne.2 z)⟩
              · exact hp k k0 (by omega)
          · rw [if_neg (fun z : PathP S p => e3 (decide_eq_true (z.ie i i0 i1)))]
        · rintro s next ⟨rfl, hp⟩
          dsimp only
          rw [if_neg (by simp)]
          refine Ret.some ?_
          rw [if_pos (show PathP S p from ⟨e1, by omega, fun k k0 k1 => (hp k k0 k1).1, fun k k0 k1 => (hp k k0 k1).2⟩)]
          rfl
      unfold M.impl_Schema_follow at key
      refine Ret.bind key fun r hr => Ret.some ?_
      rw [← hr]
  · rw [if_neg (fun z : PathP S p => e1 (decide_eq_true z.st))]

structure PairP (S : XSchema) (p q : XPath) : Prop where
  l : PathP S p
  r : PathP S q
  st : p.Start = q.Start
  en : endP S p = endP S q
structure SchP (S : XSchema) : Prop where
  b : Base S
  l8 : (S.Left.length : Int) ≤ 8
  rl : (S.Right.length : Int) = (S.Left.length : Int)
  pr : ∀ i, 0 ≤ i → i < (S.Left.length : Int) → PairP S (el S.Left i) (el S.Right i)

theorem IsSchema_eq (sS : SmallH S) : M.spec_IsSchema S = some (decide (SchP S)) := by
  apply Ret.eq
  unfold M.spec_IsSchema
  rw [l01In_eq]
  refine Ret.call rfl (Ret.ite (fun e1 => ?_) (fun e1 => Ret.some ?_))
  · have e1 : 0 ≤ S.Nodes ∧ S.Nodes ≤ 8 := by simpa using e1
    refine Ret.ite (fun e2 => Ret.some ?_) (fun e2 => Ret.ite (fun e3 => Ret.some ?_) (fun e3 => ?_))
    · have e2 := of_decide_eq_true e2
      rw [decide_eq_false (fun z : SchP S => by have := z.b.f8; omega)]
    · rw [decide_eq_false (fun z : SchP S => bne_iff_ne.1 e3 z.b.tl)]
    · have e2 := of_decide_eq_false (Bool.eq_false_iff.2 e2)
      have e3 : (S.To.length : Int) = (S.From.length : Int) := Decidable.byContradiction fun z => e3 (bne_iff_ne.2 z)
      refine Ret.call (l01Map_eq sS.s1) (Ret.ite (fun e4 => ?_) (fun e4 => Ret.some ?_))
      · have e4 := of_decide_eq_true e4
        refine Ret.call (l01Map_eq sS.s2) (Ret.ite (fun e5 => ?_) (fun e5 => Ret.some ?_))
        · have e5 := of_decide_eq_true e5
          have hb : Base S := ⟨e1, by omega, e3, e4, e5⟩
          refine Ret.ite (fun e6 => Ret.some ?_) (fun e6 => Ret.ite (fun e7 => Ret.some ?_) (fun e7 => ?_))
          · have e6 := of_decide_eq_true e6
            rw [decide_eq_false (fun z : SchP S => by have := z.l8; omega)]
          · rw [decide_eq_false (fun z : SchP S => bne_iff_ne.1 e7 z.rl)]
          · have e6 := of_decide_eq_false (Bool.eq_false_iff.2 e6)
            have e7 : (S.Right.length : Int) = (S.Left.length : Int) := Decidable.byContradiction fun z => e7 (bne_iff_ne.2 z)
            refine Ret.all (S.Left.length : Int) (fun i => PairP S (el S.Left i) (el S.Right i)) (by omega) (by omega) ?_ ?_
            · intro i next i0 i1 hp hn
              have sl := sS.s3.s2 _ (el_mem i0 i1)
              have sr := sS.s4.s2 _ (el_mem (l := S.Right) i0 (by omega))
              rw [if_pos (decide_eq_true i1)]
              refine Ret.idx i0 i1 (Ret.idx i0 (by omega) (Ret.call (l36Path_eq hb sl) (Ret.ite (fun q1 => Ret.call (l36Path_eq hb sr) (Ret.ite (fun q2 => Ret.ite (fun q3 => Ret.some ?_) (fun q3 => ?_)) (fun q2 => Ret.some ?_))) (fun q1 => Ret.some ?_))))
              · rw [decide_eq_false (fun z : SchP S => bne_iff_ne.1 q3 (z.pr i i0 i1).st)]
              · have q1 := of_decide_eq_true q1
                have q2 := of_decide_eq_true q2
                refine Ret.call (l36End_eq hb q1) (Ret.call (l36End_eq hb q2) (Ret.ite (fun q4 => Ret.some ?_) (fun q4 => hn ⟨q1, q2, ?_, ?_⟩)))
                · rw [decide_eq_false (fun z : SchP S => bne_iff_ne.1 q4 (z.pr i i0 i1).en)]
                · exact Decidable.byContradiction fun z => q3 (bne_iff_ne.2 z)
                · exact Decidable.byContradiction fun z => q4 (bne_iff_ne.2 z)
              · rw [decide_eq_false (fun z : SchP S => q2 (decide_eq_true (z.pr i i0 i1).r))]
              · rw [decide_eq_false (fun z : SchP S => q1 (decide_eq_true (z.pr i i0 i1).l))]
            · intro next hp
              rw [if_neg (by simp)]
              exact Ret.some (decide_eq_true ⟨hb, by omega, e7, hp⟩).symm
        · rw [decide_eq_false (fun z : SchP S => e5 (decide_eq_true z.b.ti))]
      · rw [decide_eq_false (fun z : SchP S => e4 (decide_eq_true z.b.fi))]
  · rw [decide_eq_false (fun z : SchP S => e1 (by simpa using z.b.n0))]

theorem isSchema_eq (sS : SmallH S) : M.impl_Schema_isSchema S = some (decide (SchP S)) := by
  apply Ret.eq
  unfold M.impl_Schema_isSchema
  rw [inRange_eq]
  refine Ret.call rfl (Ret.ite (fun e1 => ?_) (fun e1 => Ret.some ?_))
  · have e1 : 0 ≤ S.Nodes ∧ S.Nodes ≤ 8 := by simpa using e1
    refine Ret.ite (fun e2 => Ret.some ?_) (fun e2 => Ret.ite (fun e3 => Ret.some ?_) (fun e3 => ?_))
    · have e2 := of_decide_eq_true e2
      rw [decide_eq_false (fun z : SchP S => by have := z.b.f8; omega)]
    · rw [decide_eq_false (fun z : SchP S => bne_iff_ne.1 e3 z.b.tl)]
    · have e2 := of_decide_eq_false (Bool.eq_false_iff.2 e2)
      have e3 : (S.To.length : Int) = (S.From.length : Int) := Decidable.byContradiction fun z => e3 (bne_iff_ne.2 z)
      refine Ret.call (within_eq sS.s1 (by omega) (by omega)) (Ret.ite (fun e4 => ?_) (fun e4 => Ret.some ?_))
      · have e4 := of_decide_eq_true e4
        refine Ret.call (within_eq sS.s2 (by omega) (by omega)) (Ret.ite (fun e5 => ?_) (fun e5 => Ret.some ?_))
        · have e5 := of_decide_eq_true e5
          have hb : Base S := ⟨e1, by omega, e3, e4, e5⟩
          refine Ret.ite (fun e6 => Ret.some ?_) (fun e6 => Ret.ite (fun e7 => Ret.some ?_) (fun e7 => ?_))
          · have e6 := of_decide_eq_true e6
            rw [decide_eq_false (fun z : SchP S => by have := z.l8; omega)]
          · rw [decide_eq_false (fun z : SchP S => bne_iff_ne.1 e7 z.rl)]
          · have e6 := of_decide_eq_false (Bool.eq_false_iff.2 e6)
            have e7 : (S.Right.length : Int) = (S.Left.length : Int) := Decidable.byContradiction fun z => e7 (bne_iff_ne.2 z)
            refine Ret.all (S.Left.length : Int) (fun i => PairP S (el S.Left i) (el S.Right i)) (by omega) (by omega) ?_ ?_
            · intro i next i0 i1 hp hn
              have sl := sS.s3.s2 _ (el_mem i0 i1)
              have sr := sS.s4.s2 _ (el_mem (l := S.Right) i0 (by omega))
              rw [if_pos (decide_eq_true i1)]
              refine Ret.idx i0 i1 (Ret.idx i0 (by omega) (Ret.call (end_eq hb sl) (Ret.call (end_eq hb sr) ?_)))
              by_cases q1 : PathP S (el S.Left i)
              · rw [if_pos q1]
                by_cases q2 : PathP S (el S.Right i)
                · rw [if_pos q2]
                  dsimp only
                  rw [if_pos rfl, if_pos rfl]
                  refine Ret.ite (fun q3 => Ret.some ?_) (fun q3 => Ret.ite (fun q4 => Ret.some ?_) (fun q4 => hn ⟨q1, q2, ?_, ?_⟩))
                  · rw [decide_eq_false (fun z : SchP S => bne_iff_ne.1 q3 (z.pr i i0 i1).st)]
                  · rw [decide_eq_false (fun z : SchP S => bne_iff_ne.1 q4 (z.pr i i0 i1).en)]
                  · exact Decidable.byContradiction fun z => q3 (bne_iff_ne.2 z)
                  · exact Decidable.byContradiction fun z => q4 (bne_iff_ne.2 z)
                · rw [if_neg q2]
                  dsimp only
                  rw [if_pos rfl, if_neg (by decide)]
                  refine Ret.some ?_
                  rw [decide_eq_false (fun z : SchP S => q2 (z.pr i i0 i1).r)]
              · rw [if_neg q1]
                dsimp only
                rw [if_neg (by decide)]
                refine Ret.some ?_
                rw [decide_eq_false (fun z : SchP S => q1 (z.pr i i0 i1).l)]
            · intro next hp
              rw [if_neg (by simp)]
              exact Ret.some (decide_eq_true ⟨hb, by omega, e7, hp⟩).symm
        · rw [decide_eq_false (fun z : SchP S => e5 (decide_eq_true z.b.ti))]
      · rw [decide_eq_false (fun z : SchP S => e4 (decide_eq_true z.b.fi))]
  · rw [decide_eq_false (fun z : SchP S => e1 (by simpa using z.b.n0))]
end
end Go.Gx

/- The law of NewJournal. -/
namespace Go.Gx
open Classical
set_option maxHeartbeats 1000000

theorem bstr_app (a b : List UInt8) : bstr a ++ bstr b = bstr (a ++ b) := by
  apply ByteArray.ext
  simp [bstr]
theorem bstr_size (a : List UInt8) : (bstr a).size = a.length := rfl
theorem strI_b (l : List Int) : strI l = bstr (l.map fun n => UInt8.ofNat n.toNat) := rfl
theorem bytesI_b (l : List UInt8) : bytesI (bstr l) = l.map fun b => (b.toNat : Int) := rfl
theorem szOk {a b : List UInt8} (h : a.length + b.length ≤ 4294967296) : (((bstr a).size + (bstr b).size : Nat) : Int) ≤ IntKind.i64.max := by
  rw [bstr_size, bstr_size, show IntKind.i64.max = 9223372036854775807 from rfl]
  omega

/-- The digit of a number below ten. -/
def dgt (n : Int) : List UInt8 := [UInt8.ofNat (48 + n).toNat]
def ltr (n : Int) : UInt8 := UInt8.ofNat (97 + n).toNat

theorem u8_in {n : Int} (h0 : 0 ≤ n) (h1 : n < 256) : IntKind.u8.wrap n = n := by
  unfold IntKind.wrap
  simp [IntKind.bits, IntKind.signed]
  omega

theorem l01Dec_eq {n : Int} (h0 : 0 ≤ n) (h1 : n < 10) : M.spec_l01Dec n = some (bstr (dgt n)) := by
  unfold M.spec_l01Dec
  rw [show fuel = (fuel - 1) + 1 by unfold fuel; omega, M.spec_l01Dec_n, if_pos (decide_eq_true h1), wrap_in (by omega) (by omega), u8_in (by omega) (by omega)]
  rfl

theorem FormatInt_eq {n : Int} (h0 : 0 ≤ n) (h1 : n < 10) : M.strconv_FormatInt n 10 = some (bstr (dgt n)) := by
  have : n = 0 ∨ n = 1 ∨ n = 2 ∨ n = 3 ∨ n = 4 ∨ n = 5 ∨ n = 6 ∨ n = 7 ∨ n = 8 ∨ n = 9 := by omega
  rcases this with rfl | rfl | rfl | rfl | rfl | rfl | rfl | rfl | rfl | rfl <;> rfl

theorem ltr_eq {n : Int} (h0 : 0 ≤ n) (h1 : n < 8) : (bstr [97, 98, 99, 100, 101, 102, 103, 104]).extract n.toNat (IntKind.i64.wrap (n + 1)).toNat = bstr [ltr n] := by
  have : n = 0 ∨ n = 1 ∨ n = 2 ∨ n = 3 ∨ n = 4 ∨ n = 5 ∨ n = 6 ∨ n = 7 := by omega
  rcases this with rfl | rfl | rfl | rfl | rfl | rfl | rfl | rfl <;> rfl

def pathT (p : XPath) : List UInt8 := 64 :: dgt p.Start ++ p.Edges.map ltr
def edgeT (S : XSchema) (k : Int) : List UInt8 := dgt (el S.From k) ++ [62] ++ dgt (el S.To k)
def eqnT (S : XSchema) (k : Int) : List UInt8 := pathT (el S.Left k) ++ [61] ++ pathT (el S.Right k)
/-- Words, a space ahead of each. -/
def spc (n : Int) (f : Int → List UInt8) : List UInt8 := (tab n f).flatMap fun x => 32 :: x
/-- Words with a space between each two, a dash if there is none. -/
def prt (n : Int) (f : Int → List UInt8) : List UInt8 := if n = 0 then [45] else Lib.join (tab n f) [32]

theorem spc_succ {i : Int} (f : Int → List UInt8) (h : 0 ≤ i) : spc (i + 1) f = spc i f ++ [32] ++ f i := by
  unfold spc
  rw [tab_succ f h, List.flatMap_append]
  simp
theorem spc_len {n : Int} {f : Int → List UInt8} {m : Nat} (h0 : 0 ≤ n) (h : ∀ i, 0 ≤ i → i < n → (f i).length ≤ m) : (spc n f).length ≤ n.toNat * (m + 1) := by
  have key : ∀ k : Nat, (k : Int) ≤ n → (spc (k : Int) f).length ≤ k * (m + 1) := by
    intro k
    induction k with
    | zero => intro _; simp [spc]
    | succ k ih =>
      intro hk
      have e := spc_succ f (i := (k : Int)) (by omega)
      push_cast
      rw [e]
      have := ih (by omega)
      have := h (k : Int) (by omega) (by omega)
      simp only [List.length_append, List.length_cons, List.length_nil, Nat.add_mul]
      omega
  have := key n.toNat (by omega)
  rwa [Int.toNat_of_nonneg h0] at this
theorem joinTail_spc (l : List (List UInt8)) : Lib.joinTail [32] l = l.flatMap fun x => 32 :: x := by
  unfold Lib.joinTail
  rw [List.flatMap_def]; rfl
theorem spc_prt {n : Int} {f : Int → List UInt8} (h0 : 0 < n) : spc n f = 32 :: prt n f := by
  unfold prt spc
  rw [if_neg (by omega)]
  cases e : tab n f with
  | nil => have := congrArg List.length e; rw [tab_length] at this; simp at this; omega
  | cons x r => rw [Lib.join_cons, joinTail_spc]; simp

section
variable {S : XSchema}
theorem path_len {p : XPath} (hp : PathP S p) : (pathT p).length ≤ 8 := by
  have := hp.ln
  simp only [pathT, dgt, List.length_append, List.length_cons, List.length_nil, List.length_map]
  omega
theorem eqn_len (h : SchP S) {k : Int} (k0 : 0 ≤ k) (k1 : k < (S.Left.length : Int)) : (eqnT S k).length ≤ 17 := by
  have a := path_len (h.pr k k0 k1).l
  have b := path_len (h.pr k k0 k1).r
  simp only [eqnT, List.length_append, List.length_cons, List.length_nil]
  omega
theorem edge_len (k : Int) : (edgeT S k).length ≤ 17 := by simp [edgeT, dgt]

theorem l36Text_eq (hb : Base S) {p : XPath} (hp : PathP S p) : M.spec_l36Text p = some (bstr (pathT p)) := by
  apply Ret.eq
  have n0 := hb.n0
  have f8 := hb.f8
  have st := hp.st
  have ln := hp.ln
  unfold M.spec_l36Text
  refine Ret.call (l01Dec_eq (by omega) (by omega)) (Ret.chk (szOk (by simp [dgt])) ?_)
  refine Ret.acc (p.Edges.length : Int) (fun i s => s = bstr (64 :: dgt p.Start ++ (p.Edges.take i.toNat).map ltr)) (by omega) (by omega) (by rw [bstr_app]; simp) ?_ ?_
  · rintro i s next i0 i1 rfl hn
    have e := hp.ie i i0 i1
    dsimp only
    rw [if_pos (decide_eq_true i1)]
    refine Ret.idx i0 i1 (Ret.chk ⟨e.1, ?_, ?_⟩ ?_)
    · rw [wrap_in (by omega) (by omega)]; omega
    · rw [wrap_in (by omega) (by omega), bstr_size]; simp; omega
    · rw [ltr_eq e.1 (by omega)]
      refine Ret.chk (szOk (by simp [dgt]; omega)) (hn _ ?_)
      rw [bstr_app, take_succ_el i0 i1]
      simp
  · rintro s next rfl
    dsimp only
    rw [if_neg (by simp)]
    refine Ret.some ?_
    simp [pathT]

theorem text_eq (hb : Base S) {p : XPath} (hp : PathP S p) : M.impl_Path_text p = some (bstr (pathT p)) := by
  apply Ret.eq
  have n0 := hb.n0
  have f8 := hb.f8
  have st := hp.st
  have ln := hp.ln
  unfold M.impl_Path_text
  refine Ret.call (FormatInt_eq (by omega) (by omega)) (Ret.chk (szOk (by simp [dgt])) ?_)
  refine Ret.acc (p.Edges.length : Int) (fun i s => s = ((64 :: dgt p.Start).map fun b => (b.toNat : Int)) ++ (p.Edges.take i.toNat).map fun e => 97 + e) (by omega) (by omega) (by rw [bstr_app, bytesI_b]; simp) ?_ ?_
  · rintro i s next i0 i1 rfl hn
    have e := hp.ie i i0 i1
    dsimp only
    rw [if_pos (decide_eq_true i1)]
    refine Ret.idx i0 i1 (Ret.chk ?_ (hn _ ?_))
    · unfold lim; simp [dgt]; omega
    · rw [take_succ_el i0 i1, wrap_in (by omega) (by omega), u8_in (by omega) (by omega)]
      simp
  · rintro s next rfl
    dsimp only
    rw [if_neg (by simp)]
    refine Ret.some ?_
    rw [strI_b]
    congr 1
    simp [pathT, ltr, dgt, Function.comp_def]
    congr 1
    omega

theorem eqEmpty (l : List UInt8) : ((bstr l).toList == (bstr []).toList) = decide (l = []) := by
  rw [ByteArray.toList_eq, ByteArray.toList_eq]
  show (l == []) = _
  cases l <;> rfl

/-- A text, whole. -/
def wholeT (S : XSchema) : List UInt8 := dgt S.Nodes ++ [32, 124, 32] ++ prt (S.From.length : Int) (edgeT S) ++ [32, 124, 32] ++ prt (S.Left.length : Int) (eqnT S)

theorem spc_nil {n : Int} {f : Int → List UInt8} (h0 : 0 ≤ n) : spc n f = [] ↔ n = 0 := by
  constructor
  · intro h
    by_cases h1 : 0 < n
    · rw [spc_prt h1] at h; cases h
    · omega
  · rintro rfl; rfl
theorem sprt {n : Int} {f : Int → List UInt8} (h0 : 0 ≤ n) : (if spc n f = [] then [32, 45] else spc n f) = 32 :: prt n f := by
  by_cases h : n = 0
  · subst h; rfl
  · rw [if_neg (fun z => h ((spc_nil h0).1 z)), spc_prt (by omega)]
theorem prt_len {n : Int} {f : Int → List UInt8} {m : Nat} (h0 : 0 ≤ n) (h8 : n ≤ 8) (h : ∀ i, 0 ≤ i → i < n → (f i).length ≤ m) : (prt n f).length ≤ 8 * (m + 1) + 1 := by
  by_cases hz : n = 0
  · subst hz; simp [prt]
  · have a := spc_len h0 h
    rw [spc_prt (by omega)] at a
    have : n.toNat * (m + 1) ≤ 8 * (m + 1) := Nat.mul_le_mul_right _ (by omega)
    simp only [List.length_cons] at a
    omega

/-- The last step of the whole text. -/
def tailM (N : Int) (E Q : ByteArray) : Option ByteArray :=
  (M.spec_l01Dec N).bind fun v31 =>
    chk (((v31.size + (bstr [32, 124]).size : Nat) : Int) ≤ IntKind.i64.max) (
      chk ((((v31 ++ (bstr [32, 124])).size + E.size : Nat) : Int) ≤ IntKind.i64.max) (
        chk (((((v31 ++ (bstr [32, 124])) ++ E).size + (bstr [32, 124]).size : Nat) : Int) ≤ IntKind.i64.max) (
          chk ((((((v31 ++ (bstr [32, 124])) ++ E) ++ (bstr [32, 124])).size + Q.size : Nat) : Int) ≤ IntKind.i64.max) (
            some ((((v31 ++ (bstr [32, 124])) ++ E) ++ (bstr [32, 124])) ++ Q)))))
theorem tail_r (h : SchP S) {E Q : List UInt8} (hE : E = 32 :: prt (S.From.length : Int) (edgeT S)) (hQ : Q = 32 :: prt (S.Left.length : Int) (eqnT S)) : Ret (tailM S.Nodes (bstr E) (bstr Q)) fun r => r = bstr (wholeT S) := by
  have n0 := h.b.n0
  have f8 := h.b.f8
  have l8 := h.l8
  have p1 := prt_len (f := edgeT S) (m := 17) (n := (S.From.length : Int)) (by omega) f8 (fun i _ _ => edge_len i)
  have p2 := prt_len (f := eqnT S) (m := 17) (n := (S.Left.length : Int)) (by omega) l8 (fun i i0 i1 => eqn_len h i0 i1)
  have d1 : ∀ n, (dgt n).length = 1 := fun _ => rfl
  subst hE hQ
  unfold tailM
  refine Ret.call (l01Dec_eq (by omega) (by omega)) ?_
  refine Ret.chk (szOk (by simp [d1])) ?_
  rw [bstr_app]
  refine Ret.chk (szOk (by simp [d1]; omega)) ?_
  rw [bstr_app]
  refine Ret.chk (szOk (by simp [d1]; omega)) ?_
  rw [bstr_app]
  refine Ret.chk (szOk (by simp [d1]; omega)) (Ret.some ?_)
  rw [bstr_app]
  simp [wholeT]

theorem l36Whole_eq (h : SchP S) : M.spec_l36Whole S = some (bstr (wholeT S)) := by
  apply Ret.eq
  have n0 := h.b.n0
  have f8 := h.b.f8
  have tl := h.b.tl
  have l8 := h.l8
  have rl := h.rl
  have p1 := prt_len (f := edgeT S) (m := 17) (n := (S.From.length : Int)) (by omega) f8 (fun i _ _ => edge_len i)
  have p2 := prt_len (f := eqnT S) (m := 17) (n := (S.Left.length : Int)) (by omega) l8 (fun i i0 i1 => eqn_len h i0 i1)
  have d1 : ∀ n, (dgt n).length = 1 := fun _ => rfl
  unfold M.spec_l36Whole
  refine Ret.acc (S.From.length : Int) (fun i s => s = bstr (spc i (edgeT S))) (by omega) (by omega) rfl ?_ ?_
  · rintro i s next i0 i1 rfl hn
    have a := h.b.fi i i0 i1
    have b := h.b.ti i i0 (by omega)
    have q := spc_len (f := edgeT S) (m := 17) i0 (fun i _ _ => edge_len i)
    dsimp only
    rw [if_pos (decide_eq_true i1)]
    refine Ret.chk (szOk (by simp; omega)) (Ret.idx i0 i1 (Ret.call (l01Dec_eq (by omega) (by omega)) ?_))
    rw [bstr_app]
    refine Ret.chk (szOk (by simp [d1]; omega)) ?_
    rw [bstr_app]
    refine Ret.chk (szOk (by simp [d1]; omega)) (Ret.idx i0 (by omega) (Ret.call (l01Dec_eq (by omega) (by omega)) ?_))
    rw [bstr_app]
    refine Ret.chk (szOk (by simp [d1]; omega)) (hn _ ?_)
    rw [bstr_app, spc_succ _ i0]
    simp [edgeT]
  · rintro s next rfl
    dsimp only
    rw [if_neg (by simp)]
    refine Ret.acc (S.Left.length : Int) (fun i s => s = bstr (spc i (eqnT S))) (by omega) (by omega) rfl ?_ ?_
    · rintro i s nx i0 i1 rfl hn
      have a := (h.pr i i0 i1).l
      have b := (h.pr i i0 i1).r
      have la := path_len a
      have lb := path_len b
      have q := spc_len (f := eqnT S) (m := 17) i0 (fun j j0 j1 => eqn_len h j0 (by omega))
      dsimp only
      rw [if_pos (decide_eq_true i1)]
      refine Ret.chk (szOk (by simp; omega)) (Ret.idx i0 i1 (Ret.call (l36Text_eq h.b a) ?_))
      rw [bstr_app]
      refine Ret.chk (szOk (by simp; omega)) ?_
      rw [bstr_app]
      refine Ret.chk (szOk (by simp; omega)) (Ret.idx i0 (by omega) (Ret.call (l36Text_eq h.b b) ?_))
      rw [bstr_app]
      refine Ret.chk (szOk (by simp; omega)) (hn _ ?_)
      rw [bstr_app, spc_succ _ i0]
      simp [eqnT]
    · rintro s nx rfl
      dsimp only
      rw [if_neg (by simp)]
      unfold joinM
      have e1 := sprt (f := edgeT S) (n := (S.From.length : Int)) (by omega)
      have e2 := sprt (f := eqnT S) (n := (S.Left.length : Int)) (by omega)
      have main : ∀ E : List UInt8, E = 32 :: prt (S.From.length : Int) (edgeT S) → Ret (if decide (spc (S.Left.length : Int) (eqnT S) = []) = true then tailM S.Nodes (bstr E) (bstr [32, 45]) else tailM S.Nodes (bstr E) (bstr (spc (S.Left.length : Int) (eqnT S)))) fun r => r = bstr (wholeT S) := by
        intro E hE
        refine Ret.ite (fun z => ?_) (fun z => ?_)
        · rw [if_pos (of_decide_eq_true z)] at e2
          exact tail_r h hE e2
        · rw [if_neg (fun y => z (decide_eq_true y))] at e2
          exact tail_r h hE e2
      simp only [eqEmpty]
      refine Ret.ite (fun z => ?_) (fun z => ?_)
      · rw [if_pos (of_decide_eq_true z)] at e1
        exact main _ e1
      · rw [if_neg (fun y => z (decide_eq_true y))] at e1
        exact main _ e1

theorem Join_eq {l : List (List UInt8)} {sep : List UInt8} (h1 : l.length ≤ 4294967296) (h2 : (Lib.join l sep).length ≤ 4294967296) : M.strings_Join (l.map bstr) (bstr sep) = some (bstr (Lib.join l sep)) := by
  have e : joinS (l.map bstr) (bstr sep) = Lib.join l sep := by
    unfold joinS
    rw [List.map_map, show ((fun x : ByteArray => x.data.toList) ∘ bstr) = id from rfl, List.map_id]
    rfl
  unfold M.strings_Join
  apply Ret.eq
  refine Ret.chk ⟨by rw [List.length_map]; omega, by rw [e]; omega⟩ (Ret.some ?_)
  rw [e]; rfl

theorem part_eq {n : Int} {f : Int → List UInt8} (h0 : 0 ≤ n) (h8 : n ≤ 8) (hp : (prt n f).length ≤ 4096) : M.impl_part (tab n fun k => bstr (f k)) = some (bstr (prt n f)) := by
  have el : ((tab n fun k => bstr (f k)).length : Int) = n := by rw [tab_length]; omega
  unfold M.impl_part
  rw [el]
  by_cases hz : n = 0
  · subst hz; rfl
  · rw [if_neg (by simpa using hz)]
    have ep : prt n f = Lib.join (tab n f) [32] := by unfold prt; rw [if_neg hz]
    have em : (tab n fun k => bstr (f k)) = (tab n f).map bstr := by unfold tab; rw [List.map_map]; rfl
    rw [em, Join_eq (by rw [tab_length]; omega) (by rw [← ep]; omega), ep]
    rfl

theorem Schema_text_eq (h : SchP S) : M.impl_Schema_text S = some (bstr (wholeT S)) := by
  apply Ret.eq
  have n0 := h.b.n0
  have f8 := h.b.f8
  have tl := h.b.tl
  have l8 := h.l8
  have rl := h.rl
  have p1 := prt_len (f := edgeT S) (m := 17) (n := (S.From.length : Int)) (by omega) f8 (fun i _ _ => edge_len i)
  have p2 := prt_len (f := eqnT S) (m := 17) (n := (S.Left.length : Int)) (by omega) l8 (fun i i0 i1 => eqn_len h i0 i1)
  have d1 : ∀ n, (dgt n).length = 1 := fun _ => rfl
  unfold M.impl_Schema_text
  refine Ret.acc (S.From.length : Int) (fun i s => s = tab i fun k => bstr (edgeT S k)) (by omega) (by omega) rfl ?_ ?_
  · rintro i s next i0 i1 rfl hn
    have a := h.b.fi i i0 i1
    have b := h.b.ti i i0 (by omega)
    dsimp only
    rw [if_pos (decide_eq_true i1)]
    refine Ret.idx i0 i1 (Ret.call (FormatInt_eq (by omega) (by omega)) (Ret.chk (szOk (by simp [d1])) (Ret.idx i0 (by omega) (Ret.call (FormatInt_eq (by omega) (by omega)) ?_))))
    rw [bstr_app]
    refine Ret.chk (szOk (by simp [d1])) (Ret.chk ?_ (hn _ ?_))
    · unfold lim; rw [tab_length]; simp only [List.length_cons, List.length_nil]; omega
    · rw [bstr_app, tab_succ _ i0]; rfl
  · rintro s next rfl
    dsimp only
    rw [if_neg (by simp)]
    refine Ret.acc (S.Left.length : Int) (fun i s => s = tab i fun k => bstr (eqnT S k)) (by omega) (by omega) rfl ?_ ?_
    · rintro i s nx i0 i1 rfl hn
      have a := (h.pr i i0 i1).l
      have b := (h.pr i i0 i1).r
      have la := path_len a
      have lb := path_len b
      dsimp only
      rw [if_pos (decide_eq_true i1)]
      refine Ret.idx i0 i1 (Ret.call (text_eq h.b a) (Ret.chk (szOk (by simp; omega)) (Ret.idx i0 (by omega) (Ret.call (text_eq h.b b) ?_))))
      rw [bstr_app]
      refine Ret.chk (szOk (by simp; omega)) (Ret.chk ?_ (hn _ ?_))
      · unfold lim; rw [tab_length]; simp only [List.length_cons, List.length_nil]; omega
      · rw [bstr_app, tab_succ _ i0]; rfl
    · rintro s nx rfl
      dsimp only
      rw [if_neg (by simp)]
      refine Ret.call (FormatInt_eq (by omega) (by omega)) (Ret.call (part_eq (by omega) f8 (by omega)) (Ret.call (part_eq (by omega) l8 (by omega)) ?_))
      have ej : Lib.join [dgt S.Nodes, prt (S.From.length : Int) (edgeT S), prt (S.Left.length : Int) (eqnT S)] [32, 124, 32] = wholeT S := by
        rw [Lib.join_cons]
        simp [Lib.joinTail, wholeT]
      have el : (wholeT S).length ≤ 4096 := by simp [wholeT, d1]; omega
      refine Ret.call (Join_eq (l := [dgt S.Nodes, prt (S.From.length : Int) (edgeT S), prt (S.Left.length : Int) (eqnT S)]) (sep := [32, 124, 32]) (by simp) (by rw [ej]; omega)) (Ret.some ?_)
      rw [ej]

theorem whole_len (h : SchP S) : (wholeT S).length ≤ 4096 := by
  have f8 := h.b.f8
  have l8 := h.l8
  have p1 := prt_len (f := edgeT S) (m := 17) (n := (S.From.length : Int)) (by omega) f8 (fun i _ _ => edge_len i)
  have p2 := prt_len (f := eqnT S) (m := 17) (n := (S.Left.length : Int)) (by omega) l8 (fun i i0 i1 => eqn_len h i0 i1)
  have d1 : ∀ n, (dgt n).length = 1 := fun _ => rfl
  simp [wholeT, d1]; omega

theorem NewJournal_both (sS : SmallH S) : ∃ g w, M.spec_NewJournal S = some (g, w) ∧ M.impl_NewJournal S = some (g, w) := by
  by_cases h : SchP S
  · have wl := whole_len h
    refine ⟨bstr ([115, 99, 104, 101, 109, 97, 32] ++ wholeT S ++ [10]), 0, ?_, ?_⟩
    · apply Ret.eq
      unfold M.spec_NewJournal
      refine Ret.call (IsSchema_eq sS) ?_
      rw [if_pos (decide_eq_true h)]
      refine Ret.call (l36Whole_eq h) (Ret.chk (szOk (by simp; omega)) ?_)
      rw [bstr_app]
      refine Ret.chk (szOk (by simp; omega)) (Ret.some ?_)
      rw [bstr_app]
    · apply Ret.eq
      unfold M.impl_NewJournal
      refine Ret.call (isSchema_eq sS) ?_
      rw [if_pos (decide_eq_true h)]
      refine Ret.call (v := bstr ([115, 99, 104, 101, 109, 97, 32] ++ wholeT S ++ [10])) ?_ (Ret.some rfl)
      apply Ret.eq
      unfold M.impl_newJournal
      refine Ret.call (Schema_text_eq h) (Ret.chk (szOk (by simp; omega)) ?_)
      rw [bstr_app]
      refine Ret.chk (szOk (by simp; omega)) (Ret.some ?_)
      rw [bstr_app]
  · refine ⟨bstr [], 1, ?_, ?_⟩
    · unfold M.spec_NewJournal
      rw [IsSchema_eq sS, decide_eq_false h, Option.bind_some, if_neg (by decide)]
    · unfold M.impl_NewJournal
      rw [isSchema_eq sS, decide_eq_false h, Option.bind_some, if_neg (by decide)]
end

theorem law_NewJournal {a0 : XSchema} (h0 : R.XSchema a0) : M.laws_FnExactNewJournal a0 = some true := by
  unfold M.laws_FnExactNewJournal
  obtain ⟨v0, e0, hv0⟩ := szSchema_r (n := 1048576) (by decide) (by decide) (fitsH h0)
  rw [e0, Option.bind_some]
  rcases hv0 with ⟨z0, _⟩ | ⟨l0, u0, s0⟩
  · rw [if_pos (decide_eq_true z0)]
  · rw [if_neg (fun h => absurd (of_decide_eq_true h) (by omega))]
    rw [toSchema_eq s0, Option.bind_some]
    obtain ⟨g, w, es, ei⟩ := NewJournal_both s0
    rw [es, ei]
    simp only [Option.bind_some]
    rw [eqSchema_refl s0]
    simp
end Go.Gx
