/- Laid together: part 1. -/
import Derived.Test.YtiikkfdehbcfaaaGxEP0
import Derived.Test.YtiikkfdehbcfaaaGxEM0
/- Plain laws: universal arrows. -/
namespace Go.Gx
open Classical
set_option maxHeartbeats 1000000

/-! ### lists without doubles -/
theorem fil_nodup (n : Int) (p : Int → Bool) : (fil n p).Nodup := by
  unfold fil
  refine List.Pairwise.filter _ ?_
  rw [List.pairwise_map]
  exact (show List.Pairwise (fun a b : Nat => a ≠ b) (List.range n.toNat) from List.nodup_range).imp fun h e => h (by omega)
theorem homL_nodup (c : XCategory) (x y : Int) : (homL c x y).Nodup := fil_nodup _ _

/-! ### a map's keys -/
/-- What a map holds after the first i values. -/
structure Keys (l : List Int) (m : List (Int × Bool)) : Prop where
  mem : ∀ k, k ∈ m.map (·.1) ↔ k ∈ l
  le : m.length ≤ l.length
  eq : m.length = l.length ↔ l.Nodup
/-! ### universal arrows -/
abbrev lftL (f : XFunctor) (x z e g : Int) : List Int := (homL f.Source x z).filter fun u => cmp f.Target (el f.Arrows u) e == g
def Univ (f : XFunctor) (y z e : Int) : Prop := ∀ x, 0 ≤ x → x < f.Source.Objects → ∀ g ∈ homL f.Target (el f.Objects x) y, ((lftL f x z e g).length : Int) = 1

theorem hom_ar {c : XCategory} {x y s : Int} (h : s ∈ homL c x y) : Ar c s x y := by
  have := homL_mem.1 h
  exact ⟨this.1, this.2.1, this.2.2.1, this.2.2.2⟩
theorem ar_hom {c : XCategory} {x y s : Int} (h : Ar c s x y) : s ∈ homL c x y := homL_mem.2 ⟨h.p, h.q, h.s, h.t⟩

/-- What is found: the first universal arrow to y. -/
def Found (f : XFunctor) (y : Int) (r : Int × Int × Bool) : Prop :=
  (r.2.2 = true ∧ 0 ≤ r.1 ∧ r.1 < f.Source.Objects ∧ (∀ x, 0 ≤ x → x < r.1 → ∀ g ∈ homL f.Target (el f.Objects x) y, ¬ Univ f y x g) ∧
    ∃ j, 0 ≤ j ∧ j < ((homL f.Target (el f.Objects r.1) y).length : Int) ∧ r.2.1 = el (homL f.Target (el f.Objects r.1) y) j ∧ Univ f y r.1 r.2.1 ∧ ∀ k, 0 ≤ k → k < j → ¬ Univ f y r.1 (el (homL f.Target (el f.Objects r.1) y) k)) ∨
  (r = (0, 0, false) ∧ ∀ x, 0 ≤ x → x < f.Source.Objects → ∀ g ∈ homL f.Target (el f.Objects x) y, ¬ Univ f y x g)

theorem Found.one {f : XFunctor} {y : Int} {r s : Int × Int × Bool} (hr : Found f y r) (hs : Found f y s) : r = s := by
  obtain ⟨r1, r2, r3⟩ := r
  obtain ⟨s1, s2, s3⟩ := s
  rcases hr with ⟨a1, a2, a3, a4, j, j0, j1, j2, j3, j4⟩ | ⟨a1, a2⟩ <;> rcases hs with ⟨b1, b2, b3, b4, k, k0, k1, k2, k3, k4⟩ | ⟨b1, b2⟩
  · dsimp only at *
    have e1 : r1 = s1 := by
      rcases Int.lt_trichotomy r1 s1 with h | h | h
      · exact absurd j3 (b4 r1 a2 h r2 (j2 ▸ el_mem j0 j1))
      · exact h
      · exact absurd k3 (a4 s1 b2 h s2 (k2 ▸ el_mem k0 k1))
    subst e1
    have e2 : j = k := by
      rcases Int.lt_trichotomy j k with h | h | h
      · exact absurd j3 (j2 ▸ k4 j j0 h)
      · exact h
      · exact absurd k3 (k2 ▸ j4 k k0 h)
    subst e2
    rw [j2, k2, a1, b1]
  · dsimp only at *
    exact absurd j3 (b2 r1 a2 a3 r2 (j2 ▸ el_mem j0 j1))
  · dsimp only at *
    exact absurd k3 (a2 s1 b2 b3 s2 (k2 ▸ el_mem k0 k1))
  · rw [a1, b1]

theorem Found.ar {f : XFunctor} {y : Int} {r : Int × Int × Bool} (hr : Found f y r) (hb : r.2.2 = true) : (0 ≤ r.1 ∧ r.1 < f.Source.Objects) ∧ Ar f.Target r.2.1 (el f.Objects r.1) y ∧ Univ f y r.1 r.2.1 := by
  rcases hr with ⟨_, a2, a3, _, j, j0, j1, j2, j3, _⟩ | ⟨a1, _⟩
  · exact ⟨⟨a2, a3⟩, j2 ▸ hom_ar (el_mem j0 j1), j3⟩
  · rw [a1] at hb; cases hb

end Go.Gx

/- Plain laws: products of categories. -/
namespace Go.Gx
open Classical
set_option maxHeartbeats 2000000

theorem mulb {i j n m : Int} (i0 : 0 ≤ i) (h : i < n) (h0 : 0 ≤ j) (h1 : j < m) : 0 ≤ i * m ∧ i * m + j < n * m ∧ i * m + m ≤ n * m := by
  have e1 : (i + 1) * m ≤ n * m := Int.mul_le_mul_of_nonneg_right (by omega) (by omega)
  rw [Int.add_mul, Int.one_mul] at e1
  have e2 := Int.mul_nonneg i0 (show 0 ≤ m by omega)
  omega
theorem mulB {n m N M : Int} (h0 : 0 ≤ n) (h1 : n ≤ N) (h2 : 0 ≤ m) (h3 : m ≤ M) : 0 ≤ n * m ∧ n * m ≤ N * M :=
  ⟨Int.mul_nonneg h0 h2, Int.mul_le_mul h1 h3 h2 (by omega)⟩
theorem parts {k n m : Int} (h0 : 0 ≤ k) (h1 : k < n * m) (hm : 0 ≤ m) : 0 < m ∧ 0 ≤ k / m ∧ k / m < n ∧ 0 ≤ k % m ∧ k % m < m := by
  have hm : 0 < m := by
    rcases Int.lt_or_eq_of_le hm with h | h
    · exact h
    · rw [← h, Int.mul_zero] at h1; omega
  exact ⟨hm, Int.ediv_nonneg h0 (by omega), Int.ediv_lt_of_lt_mul hm h1, Int.emod_nonneg _ (by omega), Int.emod_lt_of_pos _ hm⟩
/-- Two numbers as one, over all pairs. -/
abbrev tab2 {α : Type} (n m : Int) (f : Int → Int → α) : List α := tab (n * m) fun k => f (k / m) (k % m)
theorem tab_len' (n : Int) {α : Type} (f : Int → α) (h : 0 ≤ n) : ((tab n f).length : Int) = n := by rw [tab_length]; omega

end Go.Gx

/- Plain laws: the product as impl makes it; projections. -/
namespace Go.Gx
open Classical
set_option maxHeartbeats 2000000

end Go.Gx

/- Plain laws: pairs of lists; products of functors. -/
namespace Go.Gx
open Classical
set_option maxHeartbeats 1000000

abbrev pairF (a b : List Int) (n : Int) (i j : Int) : Int := el a i * n + el b j
def pairL (a b : List Int) (n : Int) : List Int := tab2 (a.length : Int) (b.length : Int) (pairF a b n)
/-- Codes of pairs are small numbers. -/
structure PairOk (a b : List Int) (n A : Int) : Prop where
  hA : A ≤ 40
  hn : n ≤ 40
  la : (a.length : Int) ≤ 40
  lb : (b.length : Int) ≤ 40
  ia : In A a
  ib : In n b

theorem PairOk.len {a b : List Int} {n A : Int} (h : PairOk a b n A) {i j : Int} (i0 : 0 ≤ i) (i1 : i < (a.length : Int)) (j0 : 0 ≤ j) (j1 : j < (b.length : Int)) (F : Int → Int) :
    ((tab (i * (b.length : Int) + j) F).length : Int) ≤ 1600 := by
  have hb1 := mulb i0 i1 j0 j1
  have hB := mulB (n := (a.length : Int)) (m := (b.length : Int)) (N := 40) (M := 40) (by omega) h.la (by omega) h.lb
  rw [tab_len' _ _ (by omega)]; omega
theorem PairOk.small {a b : List Int} {n A : Int} (h : PairOk a b n A) : Small (pairL a b n) := by
  have hB := mulB (n := (a.length : Int)) (m := (b.length : Int)) (N := 40) (M := 40) (by omega) h.la (by omega) h.lb
  unfold Small pairL; rw [tab_len' _ _ hB.1]; omega

end Go.Gx

/- The law of InverseFunctor. -/
namespace Go.Gx
open Classical
set_option maxHeartbeats 1000000

theorem l01Has_eq {l : List Int} (h : Small l) (x : Int) : M.spec_l01Has l x = some (decide (x ∈ l)) := by
  apply Ret.ask
  unfold M.spec_l01Has
  simp only [decide_eq_true_eq, beq_iff_eq]
  refine Ret.all (l.length : Int) (fun i => el l i ≠ x) (by omega) (by omega) ?_ ?_
  · intro i next hi0 hi1 hp hn1
    rw [if_pos hi1]
    refine Ret.idx hi0 hi1 (Ret.ite (fun he => Ret.some ?_) (fun he => hn1 he))
    exact ⟨fun _ => he ▸ el_mem hi0 hi1, fun _ => rfl⟩
  · intro next hp
    rw [if_neg (by omega)]
    refine Ret.some ⟨(fun h => by cases h), fun hx => ?_⟩
    obtain ⟨i, h0, h1, e⟩ := mem_el hx
    exact absurd e (hp i h0 h1)

end Go.Gx

/- Plain laws: places in lists; full parts of a category. -/
namespace Go.Gx
open Classical
set_option maxHeartbeats 1000000

/-! ### places -/
theorem indexL_at {l : List Int} (hl : Small l) {i : Int} (i0 : 0 ≤ i) (i1 : i < (l.length : Int)) (hn : ∀ j, 0 ≤ j → j < i → el l j ≠ el l i) : indexL l (el l i) = i := by
  have h : Ret (M.spec_l01Index l (el l i)) fun r => r = i := by
    unfold M.spec_l01Index
    simp only [beq_iff_eq]
    refine Ret.all (l.length : Int) (fun j => el l j ≠ el l i) (by omega) (by omega) ?_ ?_
    · intro j next j0 j1 hp hn1
      rw [if_pos (decide_eq_true j1)]
      refine Ret.idx j0 j1 (Ret.ite (fun h => Ret.some ?_) (fun h => hn1 h))
      rcases Int.lt_trichotomy j i with h1 | h1 | h1
      · exact absurd h (hn j j0 h1)
      · exact h1
      · exact absurd rfl (hp i i0 h1)
    · intro next hp
      exact absurd rfl (hp i i0 i1)
  rw [l01Index_eq hl] at h
  obtain ⟨r, e, rfl⟩ := h
  exact Option.some.inj e
theorem indexL_no {l : List Int} (hl : Small l) {v : Int} (hv : v ∉ l) : indexL l v = -1 := by
  have h : Ret (M.spec_l01Index l v) fun r => r = -1 := by
    unfold M.spec_l01Index
    simp only [beq_iff_eq]
    refine Ret.all (l.length : Int) (fun _ => True) (by omega) (by omega) ?_ ?_
    · intro j next j0 j1 hp hn1
      rw [if_pos (decide_eq_true j1)]
      refine Ret.idx j0 j1 (Ret.ite (fun h => absurd (h ▸ el_mem j0 j1) hv) (fun h => hn1 trivial))
    · intro next hp
      rw [if_neg (by simp)]
      exact Ret.some rfl
  rw [l01Index_eq hl] at h
  obtain ⟨r, e, rfl⟩ := h
  exact Option.some.inj e
theorem nodup_el {l : List Int} (h : l.Nodup) {i j : Int} (i0 : 0 ≤ i) (i1 : i < (l.length : Int)) (j0 : 0 ≤ j) (j1 : j < (l.length : Int)) (e : el l i = el l j) : i = j := by
  have hp := List.pairwise_iff_getElem.1 (show List.Pairwise (fun a b : Int => a ≠ b) l from h)
  have ei : el l i = l[i.toNat]'(by omega) := by
    have := el_get (l := l) (k := i.toNat) (by omega)
    rwa [show ((i.toNat : Nat) : Int) = i by omega] at this
  have ej : el l j = l[j.toNat]'(by omega) := by
    have := el_get (l := l) (k := j.toNat) (by omega)
    rwa [show ((j.toNat : Nat) : Int) = j by omega] at this
  rcases Int.lt_trichotomy i j with h1 | h1 | h1
  · exact absurd (by rw [← ei, ← ej]; exact e) (hp i.toNat j.toNat (by omega) (by omega) (by omega))
  · exact h1
  · exact absurd (by rw [← ei, ← ej]; exact e.symm) (hp j.toNat i.toNat (by omega) (by omega) (by omega))
theorem indexL_el {l : List Int} (hl : Small l) (h : l.Nodup) {i : Int} (i0 : 0 ≤ i) (i1 : i < (l.length : Int)) : indexL l (el l i) = i :=
  indexL_at hl i0 i1 fun j j0 j1 e => by have := nodup_el h j0 (by omega) i0 i1 e; omega
theorem indexL_in {l : List Int} (hl : Small l) (h : l.Nodup) {v : Int} (hv : v ∈ l) : (0 ≤ indexL l v ∧ indexL l v < (l.length : Int)) ∧ el l (indexL l v) = v := by
  obtain ⟨i, i0, i1, rfl⟩ := mem_el hv
  rw [indexL_el hl h i0 i1]
  exact ⟨⟨i0, i1⟩, rfl⟩

theorem fil_more {i : Int} (p : Int → Bool) (h : 0 ≤ i) : ∀ k : Nat, ∃ t, fil (i + (k : Int)) p = fil i p ++ t
  | 0 => ⟨[], by simp⟩
  | k + 1 => by
    obtain ⟨t, e⟩ := fil_more p h k
    rw [show i + ((k + 1 : Nat) : Int) = (i + (k : Int)) + 1 by omega, fil_succ p (by omega), e]
    exact ⟨t ++ _, by rw [List.append_assoc]⟩
/-- Where a number that passes lies. -/
theorem fil_place {n i : Int} (p : Int → Bool) (i0 : 0 ≤ i) (i1 : i < n) (hp : p i = true) (hn : n ≤ 1048576) : indexL (fil n p) i = ((fil i p).length : Int) := by
  obtain ⟨t, e⟩ := fil_more p (show 0 ≤ i + 1 by omega) (n - (i + 1)).toNat
  rw [show i + 1 + (((n - (i + 1)).toNat : Nat) : Int) = n by omega, fil_succ p i0, hp] at e
  simp only [if_true] at e
  have hl := fil_length_le n p
  have hlen : (fil i p).length < (fil n p).length := by rw [e]; simp only [List.length_append, List.length_cons]; omega
  have he : el (fil n p) ((fil i p).length : Int) = i := by
    rw [el_get hlen]
    simp only [e, List.append_assoc]
    rw [List.getElem_append_right (Nat.le_refl _)]
    simp
  have := indexL_el (l := fil n p) (by unfold Small; omega) (fil_nodup n p) (i := ((fil i p).length : Int)) (by omega) (by omega)
  rwa [he] at this

/-! ### full parts -/
noncomputable def fullL (c : XCategory) (o : List Int) : List Int := fil (c.From.length : Int) fun f => decide (el c.From f ∈ o) && decide (el c.To f ∈ o)
theorem fullL_mem {c : XCategory} {o : List Int} {f : Int} : f ∈ fullL c o ↔ 0 ≤ f ∧ f < (c.From.length : Int) ∧ el c.From f ∈ o ∧ el c.To f ∈ o := by
  unfold fullL
  rw [fil_mem, Bool.and_eq_true, decide_eq_true_iff, decide_eq_true_iff]
theorem fullL_len (c : XCategory) (o : List Int) : ((fullL c o).length : Int) ≤ (c.From.length : Int) := by
  have := fil_length_le (c.From.length : Int) fun f => decide (el c.From f ∈ o) && decide (el c.To f ∈ o)
  unfold fullL
  omega
theorem fullL_nodup (c : XCategory) (o : List Int) : (fullL c o).Nodup := fil_nodup _ _

theorem l02Full_eq {c : XCategory} (h : Shp c) {o : List Int} (so : Small o) : M.spec_l02Full c o = some (fullL c o) := by
  apply Ret.eq
  have m40 := h.m40
  have lto := h.lto
  unfold M.spec_l02Full
  refine fil_loop (n := (c.From.length : Int)) (p := fun f => decide (el c.From f ∈ o) && decide (el c.To f ∈ o)) (by omega) (by omega) ?_ ?_
  · intro i next i0 i1 hs hy hn
    dsimp only
    rw [if_pos (decide_eq_true i1)]
    refine Ret.idx i0 i1 (Ret.call (l01Has_eq so _) (Ret.ite (fun h1 => Ret.idx i0 (by omega) (Ret.call (l01Has_eq so _) (Ret.ite (fun h2 => Ret.chk ?_ (hy ?_)) (fun h2 => hn ?_)))) (fun h1 => hn ?_)))
    · unfold lim; simp only [List.length_cons, List.length_nil]; omega
    · rw [h1, h2]; rfl
    · rw [Bool.eq_false_iff]; intro x; rw [Bool.and_eq_true] at x; exact h2 x.2
    · rw [Bool.eq_false_iff]; intro x; rw [Bool.and_eq_true] at x; exact h1 x.1
  · intro next
    dsimp only
    rw [if_neg (by simp)]
    exact Ret.some rfl
theorem between_eq {c : XCategory} (h : Shp c) {o : List Int} (so : Small o) : M.impl_Category_between c o = some (fullL c o) := l02Full_eq h so

/-- A choice of objects: those that pass. -/
structure Pick (c : XCategory) (o : List Int) : Prop where
  s : Shp c
  e : o = fil c.Objects fun x => decide (x ∈ o)
theorem Pick.nodup {c : XCategory} {o : List Int} (h : Pick c o) : o.Nodup := by rw [h.e]; exact fil_nodup _ _
theorem Pick.len {c : XCategory} {o : List Int} (h : Pick c o) : (o.length : Int) ≤ c.Objects := by
  have h1 := fil_length_le c.Objects fun x => decide (x ∈ o)
  have n0 := h.s.n0
  have := congrArg List.length h.e
  omega
theorem Pick.inn {c : XCategory} {o : List Int} (h : Pick c o) {x : Int} (hx : x ∈ o) : 0 ≤ x ∧ x < c.Objects := by
  rw [h.e] at hx
  have := fil_mem.1 hx
  exact ⟨this.1, this.2.1⟩
theorem Pick.id {c : XCategory} {o : List Int} (h : Pick c o) {x : Int} (x0 : 0 ≤ x) (x1 : x < c.Objects) : el c.Identity x ∈ fullL c o ↔ x ∈ o := by
  have i := h.s.id_in x x0 x1
  rw [fullL_mem, h.s.id_from x x0 x1, h.s.id_to x x0 x1]
  exact ⟨fun y => y.2.2.1, fun y => ⟨i.1, i.2, y, y⟩⟩
theorem Pick.objs {c : XCategory} {o : List Int} (h : Pick c o) : (fil c.Objects fun x => decide (el c.Identity x ∈ fullL c o)) = o := by
  conv => rhs; rw [h.e]
  apply fil_congr
  intro x x0 x1
  rw [decide_eq_decide]
  exact h.id x0 x1

noncomputable def subC (c : XCategory) (o : List Int) : XCategory :=
  ⟨(o.length : Int), (fullL c o).map fun f => indexL o (el c.From f), (fullL c o).map fun f => indexL o (el c.To f), o.map fun x => indexL (fullL c o) (el c.Identity x),
    (fullL c o).map fun f => (fullL c o).map fun g => indexL (fullL c o) (cmp c f g)⟩

theorem el_map {α β : Type} [Inhabited α] [Inhabited β] {l : List α} {F : α → β} {i : Int} (i0 : 0 ≤ i) (i1 : i < (l.length : Int)) : el (l.map F) i = F (el l i) := by
  have e1 : idx (l.map F) i = some (el (l.map F) i) := idx_el i0 (by rw [List.length_map]; exact i1)
  have e2 : idx l i = some (el l i) := idx_el i0 i1
  have h1 := (idx_some e1).2.2
  have h2 := (idx_some e2).2.2
  rw [List.getElem?_map, h2] at h1
  exact (Option.some.inj h1).symm

theorem Pick.comp {c : XCategory} {o : List Int} (h : Pick c o) {f g : Int} (hf : f ∈ fullL c o) (hg : g ∈ fullL c o) (e : el c.To f = el c.From g) : cmp c f g ∈ fullL c o := by
  have mf := fullL_mem.1 hf
  have mg := fullL_mem.1 hg
  have y := h.s.yes f g mf.1 mf.2.1 mg.1 mg.2.1 e
  rw [fullL_mem, h.s.cfrom f g mf.1 mf.2.1 mg.1 mg.2.1 e, h.s.cto f g mf.1 mf.2.1 mg.1 mg.2.1 e]
  exact ⟨y.1, y.2, mf.2.2.1, mg.2.2.2⟩

theorem subC_shp {c : XCategory} {o : List Int} (h : Pick c o) : Shp (subC c o) := by
  have n8 := h.s.n8
  have m40 := h.s.m40
  have lo := h.len
  have la := fullL_len c o
  have so : Small o := by unfold Small; omega
  have sa : Small (fullL c o) := by unfold Small; omega
  have no := h.nodup
  have na := fullL_nodup c o
  have lF : ((subC c o).From.length : Int) = ((fullL c o).length : Int) := by show (((fullL c o).map _).length : Int) = _; rw [List.length_map]
  have mem : ∀ i, 0 ≤ i → i < ((subC c o).From.length : Int) → el (fullL c o) i ∈ fullL c o := fun i i0 i1 => el_mem i0 (by omega)
  have eF : ∀ i, 0 ≤ i → i < ((subC c o).From.length : Int) → el (subC c o).From i = indexL o (el c.From (el (fullL c o) i)) := fun i i0 i1 => el_map i0 (by omega)
  have eT : ∀ i, 0 ≤ i → i < ((subC c o).From.length : Int) → el (subC c o).To i = indexL o (el c.To (el (fullL c o) i)) := fun i i0 i1 => el_map i0 (by omega)
  have eI : ∀ x, 0 ≤ x → x < (subC c o).Objects → el (subC c o).Identity x = indexL (fullL c o) (el c.Identity (el o x)) := fun x x0 x1 => el_map x0 x1
  have eC : ∀ i j, 0 ≤ i → i < ((subC c o).From.length : Int) → 0 ≤ j → j < ((subC c o).From.length : Int) → cmp (subC c o) i j = indexL (fullL c o) (cmp c (el (fullL c o) i) (el (fullL c o) j)) := by
    intro i j i0 i1 j0 j1
    show el (el ((fullL c o).map fun f => (fullL c o).map fun g => indexL (fullL c o) (cmp c f g)) i) j = _
    rw [el_map i0 (by omega), el_map j0 (by omega)]
  have idm : ∀ x, 0 ≤ x → x < (subC c o).Objects → el c.Identity (el o x) ∈ fullL c o := fun x x0 x1 => by
    have mx : el o x ∈ o := el_mem x0 x1
    have := h.inn mx
    exact (h.id this.1 this.2).2 mx
  have meet : ∀ i j, 0 ≤ i → i < ((subC c o).From.length : Int) → 0 ≤ j → j < ((subC c o).From.length : Int) → (el (subC c o).To i = el (subC c o).From j ↔ el c.To (el (fullL c o) i) = el c.From (el (fullL c o) j)) := by
    intro i j i0 i1 j0 j1
    rw [eT i i0 i1, eF j j0 j1]
    constructor
    · intro e
      have a := (indexL_in so no (fullL_mem.1 (mem i i0 i1)).2.2.2).2
      have b := (indexL_in so no (fullL_mem.1 (mem j j0 j1)).2.2.1).2
      rw [← a, ← b, e]
    · intro e; rw [e]
  refine ⟨by show 0 ≤ (o.length : Int); omega, by show (o.length : Int) ≤ 8; omega, by omega, ?_, ?_, ?_, ?_, ?_, ?_, ?_, ?_, ?_, ?_, ?_, ?_, ?_⟩
  · rw [lF]; show (((fullL c o).map _).length : Int) = _; rw [List.length_map]
  · show ((o.map _).length : Int) = _; rw [List.length_map]; rfl
  · rw [lF]; show (((fullL c o).map _).length : Int) = _; rw [List.length_map]
  · intro i i0 i1
    rw [eF i i0 i1]
    exact (indexL_in so no (fullL_mem.1 (mem i i0 i1)).2.2.1).1
  · intro i i0 i1
    rw [eT i i0 i1]
    exact (indexL_in so no (fullL_mem.1 (mem i i0 i1)).2.2.2).1
  · intro x x0 x1
    rw [eI x x0 x1, lF]
    exact (indexL_in sa na (idm x x0 x1)).1
  · intro x x0 x1
    have k := indexL_in sa na (idm x x0 x1)
    have mx : el o x ∈ o := el_mem x0 x1
    have hx := h.inn mx
    rw [eI x x0 x1, eF _ k.1.1 (by omega), k.2, h.s.id_from _ hx.1 hx.2]
    exact indexL_el so no x0 x1
  · intro x x0 x1
    have k := indexL_in sa na (idm x x0 x1)
    have mx : el o x ∈ o := el_mem x0 x1
    have hx := h.inn mx
    rw [eI x x0 x1, eT _ k.1.1 (by omega), k.2, h.s.id_to _ hx.1 hx.2]
    exact indexL_el so no x0 x1
  · intro i i0 i1
    show ((el ((fullL c o).map fun f => (fullL c o).map fun g => indexL (fullL c o) (cmp c f g)) i).length : Int) = _
    rw [el_map i0 (by omega), List.length_map, lF]
  · intro i j i0 i1 j0 j1 hne
    have mi := fullL_mem.1 (mem i i0 i1)
    have mj := fullL_mem.1 (mem j j0 j1)
    rw [eC i j i0 i1 j0 j1, h.s.no _ _ mi.1 mi.2.1 mj.1 mj.2.1 (fun e => hne ((meet i j i0 i1 j0 j1).2 e))]
    exact indexL_no sa fun x => by have := (fullL_mem.1 x).1; omega
  · intro i j i0 i1 j0 j1 e
    have hc := h.comp (mem i i0 i1) (mem j j0 j1) ((meet i j i0 i1 j0 j1).1 e)
    rw [eC i j i0 i1 j0 j1, lF]
    exact (indexL_in sa na hc).1
  · intro i j i0 i1 j0 j1 e
    have e' := (meet i j i0 i1 j0 j1).1 e
    have hc := h.comp (mem i i0 i1) (mem j j0 j1) e'
    have k := indexL_in sa na hc
    have mi := fullL_mem.1 (mem i i0 i1)
    have mj := fullL_mem.1 (mem j j0 j1)
    rw [eC i j i0 i1 j0 j1, eF _ k.1.1 (by omega), k.2, h.s.cfrom _ _ mi.1 mi.2.1 mj.1 mj.2.1 e', eF i i0 i1]
  · intro i j i0 i1 j0 j1 e
    have e' := (meet i j i0 i1 j0 j1).1 e
    have hc := h.comp (mem i i0 i1) (mem j j0 j1) e'
    have k := indexL_in sa na hc
    have mi := fullL_mem.1 (mem i i0 i1)
    have mj := fullL_mem.1 (mem j j0 j1)
    rw [eC i j i0 i1 j0 j1, eT _ k.1.1 (by omega), k.2, h.s.cto _ _ mi.1 mi.2.1 mj.1 mj.2.1 e', eT j j0 j1]
end Go.Gx

/- Plain laws: labels and their classes; elements that are joined. -/
namespace Go.Gx
open Classical
set_option maxHeartbeats 1000000

/-! ### the least equivalence -/
inductive Eqv (P : Int → Int → Prop) : Int → Int → Prop
  | of {x y : Int} : P x y → Eqv P x y
  | refl (x : Int) : Eqv P x x
  | symm {x y : Int} : Eqv P x y → Eqv P y x
  | trans {x y z : Int} : Eqv P x y → Eqv P y z → Eqv P x z

theorem Eqv.mono {P Q : Int → Int → Prop} (h : ∀ x y, P x y → Eqv Q x y) {x y : Int} (e : Eqv P x y) : Eqv Q x y := by
  induction e with
  | of p => exact h _ _ p
  | refl x => exact .refl x
  | symm _ ih => exact .symm ih
  | trans _ _ ih1 ih2 => exact .trans ih1 ih2
theorem Eqv.congr {P Q : Int → Int → Prop} (h : ∀ x y, P x y → Eqv Q x y) (h' : ∀ x y, Q x y → Eqv P x y) {x y : Int} : Eqv P x y ↔ Eqv Q x y := ⟨Eqv.mono h, Eqv.mono h'⟩
/-- An equivalence that holds where P does. -/
theorem Eqv.into {P : Int → Int → Prop} {f : Int → Int} (h : ∀ x y, P x y → f x = f y) {x y : Int} (e : Eqv P x y) : f x = f y := by
  induction e with
  | of p => exact h _ _ p
  | refl x => rfl
  | symm _ ih => exact ih.symm
  | trans _ _ ih1 ih2 => exact ih1.trans ih2
theorem Eqv.add {P : Int → Int → Prop} {p q i j : Int} : Eqv (fun x y => P x y ∨ (x = p ∧ y = q)) i j ↔ Eqv P i j ∨ (Eqv P i p ∧ Eqv P q j) ∨ (Eqv P i q ∧ Eqv P p j) := by
  constructor
  · intro e
    induction e with
    | of h =>
      rcases h with h | ⟨rfl, rfl⟩
      · exact .inl (.of h)
      · exact .inr (.inl ⟨.refl _, .refl _⟩)
    | refl x => exact .inl (.refl x)
    | symm _ ih =>
      rcases ih with h | ⟨h, k⟩ | ⟨h, k⟩
      · exact .inl h.symm
      · exact .inr (.inr ⟨k.symm, h.symm⟩)
      · exact .inr (.inl ⟨k.symm, h.symm⟩)
    | trans _ _ ih1 ih2 =>
      rcases ih1 with h | ⟨h, k⟩ | ⟨h, k⟩
      · rcases ih2 with h' | ⟨h', k'⟩ | ⟨h', k'⟩
        · exact .inl (h.trans h')
        · exact .inr (.inl ⟨h.trans h', k'⟩)
        · exact .inr (.inr ⟨h.trans h', k'⟩)
      · rcases ih2 with h' | ⟨h', k'⟩ | ⟨h', k'⟩
        · exact .inr (.inl ⟨h, k.trans h'⟩)
        · exact .inr (.inl ⟨h, k'⟩)
        · exact .inl (h.trans k')
      · rcases ih2 with h' | ⟨h', k'⟩ | ⟨h', k'⟩
        · exact .inr (.inr ⟨h, k.trans h'⟩)
        · exact .inl (h.trans k')
        · exact .inr (.inr ⟨h, k'⟩)
  · have up : ∀ {a b}, Eqv P a b → Eqv (fun x y => P x y ∨ (x = p ∧ y = q)) a b := fun h => Eqv.mono (fun x y z => .of (.inl z)) h
    have pq : Eqv (fun x y => P x y ∨ (x = p ∧ y = q)) p q := .of (.inr ⟨rfl, rfl⟩)
    rintro (h | ⟨h, k⟩ | ⟨h, k⟩)
    · exact up h
    · exact (up h).trans (pq.trans (up k))
    · exact (up h).trans (pq.symm.trans (up k))

/-- f tells R apart on 0 .. n - 1. -/
def Ker (n : Int) (f : Int → Int) (R : Int → Int → Prop) : Prop := ∀ i j, 0 ≤ i → i < n → 0 ≤ j → j < n → (f i = f j ↔ R i j)

theorem Ker.congr {n : Int} {f : Int → Int} {R S : Int → Int → Prop} (h : Ker n f R) (e : ∀ i j, R i j ↔ S i j) : Ker n f S := fun i j i0 i1 j0 j1 => (h i j i0 i1 j0 j1).trans (e i j)
theorem Ker.none {n : Int} {f : Int → Int} (h : ∀ i j, 0 ≤ i → i < n → 0 ≤ j → j < n → f i = f j → i = j) : Ker n f (Eqv fun _ _ => False) := by
  intro i j i0 i1 j0 j1
  constructor
  · intro e; rw [h i j i0 i1 j0 j1 e]; exact .refl _
  · intro e; exact congrArg f (Eqv.into (f := fun x => x) (fun _ _ h => h.elim) e)
/-- Two labels made one. -/
theorem Ker.merge {n : Int} {f : Int → Int} {P : Int → Int → Prop} (h : Ker n f (Eqv P)) {p q : Int} (p0 : 0 ≤ p) (p1 : p < n) (q0 : 0 ≤ q) (q1 : q < n) {a b : Int} (e : (a = f p ∧ b = f q) ∨ (a = f q ∧ b = f p)) :
    Ker n (fun i => if f i = b then a else f i) (Eqv fun x y => P x y ∨ (x = p ∧ y = q)) := by
  intro i j i0 i1 j0 j1
  rw [Eqv.add, ← h i j i0 i1 j0 j1, ← h i p i0 i1 p0 p1, ← h q j q0 q1 j0 j1, ← h i q i0 i1 q0 q1, ← h p j p0 p1 j0 j1]
  rcases e with ⟨rfl, rfl⟩ | ⟨rfl, rfl⟩ <;> dsimp only <;> split <;> split <;> grind

/-! ### labels numbered in the order in which they come -/
/-- Is i the first of its label. -/
noncomputable def ldr (l : List Int) (i : Int) : Bool := indexL l (el l i) == i
noncomputable def cnt (l : List Int) (i : Int) : Int := ((fil i (ldr l)).length : Int)
noncomputable def nrm (l : List Int) : List Int := tab (l.length : Int) fun i => cnt l (indexL l (el l i))

theorem least {p : Int → Prop} : ∀ (k : Nat), p (k : Int) → ∃ i : Int, 0 ≤ i ∧ i ≤ (k : Int) ∧ p i ∧ ∀ j, 0 ≤ j → j < i → ¬ p j := by
  intro k
  induction k using Nat.strongRecOn with
  | ind k ih =>
    intro hk
    by_cases h : ∃ j : Nat, j < k ∧ p (j : Int)
    · obtain ⟨j, hj, pj⟩ := h
      obtain ⟨i, i0, i1, pi, hi⟩ := ih j hj pj
      exact ⟨i, i0, by omega, pi, hi⟩
    · refine ⟨(k : Int), by omega, by omega, hk, fun j j0 j1 pj => h ⟨j.toNat, by omega, ?_⟩⟩
      rwa [show ((j.toNat : Nat) : Int) = j by omega]

section
variable {l : List Int}
theorem first_spec (sl : Small l) {i : Int} (i0 : 0 ≤ i) (i1 : i < (l.length : Int)) :
    (0 ≤ indexL l (el l i) ∧ indexL l (el l i) ≤ i) ∧ el l (indexL l (el l i)) = el l i ∧ ∀ j, 0 ≤ j → j < indexL l (el l i) → el l j ≠ el l i := by
  obtain ⟨k, k0, k1, hk, hn⟩ := least (p := fun k => el l k = el l i) i.toNat (by rw [show ((i.toNat : Nat) : Int) = i by omega])
  have e : indexL l (el l i) = k := by
    rw [← hk]
    exact indexL_at sl k0 (by omega) fun j j0 j1 x => hn j j0 j1 (x.trans hk)
  rw [e]
  exact ⟨⟨k0, by omega⟩, hk, hn⟩
theorem ldr_iff (sl : Small l) {i : Int} (i0 : 0 ≤ i) (i1 : i < (l.length : Int)) : ldr l i = true ↔ ∀ j, 0 ≤ j → j < i → el l j ≠ el l i := by
  have f := first_spec sl i0 i1
  unfold ldr
  rw [beq_iff_eq]
  constructor
  · intro e j j0 j1
    exact f.2.2 j j0 (by omega)
  · intro h
    exact indexL_at sl i0 i1 h
theorem ldr_first (sl : Small l) {i : Int} (i0 : 0 ≤ i) (i1 : i < (l.length : Int)) : ldr l (indexL l (el l i)) = true := by
  have f := first_spec sl i0 i1
  unfold ldr
  rw [f.2.1, beq_iff_eq]
theorem ldr_inj (_ : Small l) {i j : Int} (_ : 0 ≤ i) (_ : i < (l.length : Int)) (_ : 0 ≤ j) (_ : j < (l.length : Int)) (hi : ldr l i = true) (hj : ldr l j = true) (e : el l i = el l j) : i = j := by
  unfold ldr at hi hj
  rw [beq_iff_eq] at hi hj
  rw [← hi, ← hj, e]

theorem cnt_zero : cnt l 0 = 0 := rfl
theorem cnt_succ {i : Int} (i0 : 0 ≤ i) : cnt l (i + 1) = cnt l i + if ldr l i = true then 1 else 0 := by
  unfold cnt
  rw [fil_succ _ i0]
  split <;> simp
theorem cnt_le {i : Int} (i0 : 0 ≤ i) : 0 ≤ cnt l i ∧ cnt l i ≤ i := by
  have := fil_length_le i (ldr l)
  unfold cnt; omega
theorem cnt_mono {i : Int} (i0 : 0 ≤ i) : ∀ k : Nat, cnt l i ≤ cnt l (i + (k : Int))
  | 0 => by simp
  | k + 1 => by
    have := cnt_mono i0 k
    rw [show i + ((k + 1 : Nat) : Int) = (i + (k : Int)) + 1 by omega, cnt_succ (by omega)]
    split <;> omega
theorem cnt_lt {i j : Int} (i0 : 0 ≤ i) (hij : i < j) (h : ldr l i = true) : cnt l i < cnt l j := by
  have := cnt_mono (l := l) (i := i + 1) (by omega) (j - (i + 1)).toNat
  rw [show i + 1 + (((j - (i + 1)).toNat : Nat) : Int) = j by omega, cnt_succ i0, if_pos h] at this
  omega
theorem cnt_inj {i j : Int} (i0 : 0 ≤ i) (j0 : 0 ≤ j) (hi : ldr l i = true) (hj : ldr l j = true) (e : cnt l i = cnt l j) : i = j := by
  rcases Int.lt_trichotomy i j with h | h | h
  · have := cnt_lt i0 h hi; omega
  · exact h
  · have := cnt_lt j0 h hj; omega

theorem nrm_len : (nrm l).length = l.length := by unfold nrm; rw [tab_length]; omega
theorem nrm_small (sl : Small l) : Small (nrm l) := by unfold Small; rw [nrm_len]; exact sl
theorem nrm_el {i : Int} (i0 : 0 ≤ i) (i1 : i < (l.length : Int)) : el (nrm l) i = cnt l (indexL l (el l i)) := by unfold nrm; rw [el_tab i0 i1]
theorem nrm_ker (sl : Small l) {i j : Int} (i0 : 0 ≤ i) (i1 : i < (l.length : Int)) (j0 : 0 ≤ j) (j1 : j < (l.length : Int)) : el (nrm l) i = el (nrm l) j ↔ el l i = el l j := by
  rw [nrm_el i0 i1, nrm_el j0 j1]
  have fi := first_spec sl i0 i1
  have fj := first_spec sl j0 j1
  constructor
  · intro e
    have := cnt_inj fi.1.1 fj.1.1 (ldr_first sl i0 i1) (ldr_first sl j0 j1) e
    rw [← fi.2.1, this, fj.2.1]
  · intro e; rw [e]
/-- Labels that tell the same apart are numbered in the same way. -/
theorem nrm_congr {m : List Int} (sl : Small l) (hl : l.length = m.length) (h : ∀ i j, 0 ≤ i → i < (l.length : Int) → 0 ≤ j → j < (l.length : Int) → (el l i = el l j ↔ el m i = el m j)) : nrm l = nrm m := by
  have sm : Small m := by unfold Small at *; omega
  have hf : ∀ i, 0 ≤ i → i < (l.length : Int) → indexL l (el l i) = indexL m (el m i) := by
    intro i i0 i1
    have a := first_spec sl i0 i1
    have b := first_spec sm i0 (by omega)
    rcases Int.lt_trichotomy (indexL l (el l i)) (indexL m (el m i)) with q | q | q
    · exact absurd ((h _ _ a.1.1 (by omega) i0 i1).1 a.2.1) (b.2.2 _ a.1.1 q)
    · exact q
    · exact absurd ((h _ _ b.1.1 (by omega) i0 i1).2 b.2.1) (a.2.2 _ b.1.1 q)
  have hd : ∀ i, 0 ≤ i → i < (l.length : Int) → ldr l i = ldr m i := by
    intro i i0 i1
    unfold ldr
    rw [hf i i0 i1]
  unfold nrm
  rw [← hl]
  apply tab_congr
  intro i i0 i1
  rw [hf i i0 i1]
  have b := first_spec sm i0 (by omega)
  unfold cnt
  rw [fil_congr fun j j0 j1 => hd j j0 (by omega)]
theorem nrm_of_ker {m : List Int} {R : Int → Int → Prop} (sl : Small l) (hl : l.length = m.length) (h : Ker (l.length : Int) (el l) R) (h' : Ker (l.length : Int) (el m) R) : nrm l = nrm m :=
  nrm_congr sl hl fun i j i0 i1 j0 j1 => (h i j i0 i1 j0 j1).trans (h' i j i0 i1 j0 j1).symm
theorem nrm_idem (sl : Small l) : nrm (nrm l) = nrm l := nrm_congr (nrm_small sl) nrm_len fun i j i0 i1 j0 j1 => by
  rw [nrm_len] at i1 j1
  exact nrm_ker sl i0 i1 j0 j1

theorem fil_el {n i : Int} (p : Int → Bool) (i0 : 0 ≤ i) (i1 : i < n) (hp : p i = true) (hn : n ≤ 1048576) : el (fil n p) ((fil i p).length : Int) = i := by
  rw [← fil_place p i0 i1 hp hn]
  have := fil_length_le n p
  exact (indexL_in (by unfold Small; omega) (fil_nodup n p) (fil_mem.2 ⟨i0, i1, hp⟩)).2
/-- What has been seen before i: the labels of the first ones. -/
noncomputable def seenL (l : List Int) (i : Int) : List Int := (fil i (ldr l)).map (el l)
theorem seenL_len (i : Int) : ((seenL l i).length : Int) = cnt l i := by unfold seenL cnt; rw [List.length_map]
theorem seen_at (sl : Small l) {i k : Int} (i1 : i ≤ (l.length : Int)) (k0 : 0 ≤ k) (k1 : k < i) (hk : ldr l k = true) : indexL (seenL l i) (el l k) = cnt l k := by
  have hc := cnt_lt (j := i) k0 k1 hk
  have c0 := cnt_le (l := l) k0
  have ci := cnt_le (l := l) (i := i) (by omega)
  have hl := seenL_len (l := l) i
  unfold Small at sl
  have lf : ((fil i (ldr l)).length : Int) = cnt l i := rfl
  have e1 : el (seenL l i) (cnt l k) = el l k := by
    unfold seenL
    rw [el_map c0.1 (by omega)]
    unfold cnt
    rw [fil_el _ k0 k1 hk (by omega)]
  rw [← e1]
  refine indexL_at (by unfold Small; omega) c0.1 (by omega) fun j j0 j1 => ?_
  rw [e1]
  unfold seenL
  rw [el_map j0 (by omega)]
  have hm : el (fil i (ldr l)) j ∈ fil i (ldr l) := el_mem j0 (by omega)
  have hm' := fil_mem.1 hm
  intro e
  have := ldr_inj (by unfold Small; omega) hm'.1 (by omega) k0 (by omega) hm'.2.2 hk e
  have hi := indexL_el (l := fil i (ldr l)) (by unfold Small; omega) (fil_nodup _ _) j0 (by omega)
  rw [this, fil_place _ k0 k1 hk (by omega)] at hi
  have : cnt l k = j := hi
  omega
theorem seen_no (sl : Small l) {i : Int} (i0 : 0 ≤ i) (i1 : i < (l.length : Int)) (hi : ldr l i = true) : indexL (seenL l i) (el l i) = -1 := by
  have hl := seenL_len (l := l) i
  have ci := cnt_le (l := l) i0
  unfold Small at sl
  refine indexL_no (by unfold Small; omega) ?_
  unfold seenL
  rw [List.mem_map]
  rintro ⟨k, hk, e⟩
  have hk := fil_mem.1 hk
  exact (ldr_iff (by unfold Small; omega) i0 i1).1 hi k hk.1 hk.2.1 e
theorem seen_next {i : Int} (i0 : 0 ≤ i) : seenL l (i + 1) = seenL l i ++ if ldr l i = true then [el l i] else [] := by
  unfold seenL
  rw [fil_succ _ i0, List.map_append]
  split <;> simp
end

/-! ### a forest whose roots are the least of their classes -/
structure UF (j : List Int) (ρ : Int → Int) : Prop where
  up : ∀ x, 0 ≤ x → x < (j.length : Int) → 0 ≤ el j x ∧ el j x ≤ x
  st : ∀ x, 0 ≤ x → x < (j.length : Int) → ρ (el j x) = ρ x
  fx : ∀ x, 0 ≤ x → x < (j.length : Int) → el j x = x → ρ x = x
  lo : ∀ x, 0 ≤ x → x < (j.length : Int) → 0 ≤ ρ x ∧ ρ x ≤ x
  ix : ∀ x, 0 ≤ x → x < (j.length : Int) → ρ (ρ x) = ρ x

theorem el_set {α : Type} [Inhabited α] {l : List α} {i k : Int} {v : α} (i0 : 0 ≤ i) (i1 : i < (l.length : Int)) (k0 : 0 ≤ k) : el (l.set i.toNat v) k = if k = i then v else el l k := by
  unfold el
  rw [List.getD_eq_getElem?_getD, List.getD_eq_getElem?_getD, List.getElem?_set]
  by_cases h : k = i
  · subst h; rw [if_pos rfl, if_pos (by omega), if_pos rfl]; rfl
  · rw [if_neg (by omega), if_neg h]

section
variable {j : List Int} {ρ : Int → Int}
theorem UF.start (n : Int) : UF (tab n fun x => x) (fun x => x) := by
  refine ⟨?_, ?_, ?_, ?_, ?_⟩ <;> intro x x0 x1 <;> (try rw [tab_length] at x1) <;> (try rw [el_tab x0 (by omega)]) <;> try omega
theorem UF.halve (h : UF j ρ) {x : Int} (x0 : 0 ≤ x) (x1 : x < (j.length : Int)) (hx : el j x ≠ x) : UF (j.set x.toNat (el j (el j x))) ρ := by
  have a := h.up x x0 x1
  have b := h.up (el j x) a.1 (by omega)
  have L : ((j.set x.toNat (el j (el j x))).length : Int) = (j.length : Int) := by rw [List.length_set]
  refine ⟨?_, ?_, ?_, ?_, ?_⟩ <;> intro y y0 y1 <;> rw [L] at y1
  · rw [el_set x0 x1 y0]; split
    · subst_vars; omega
    · exact h.up y y0 y1
  · rw [el_set x0 x1 y0]; split
    · subst_vars; rw [h.st _ a.1 (by omega), h.st _ x0 x1]
    · exact h.st y y0 y1
  · rw [el_set x0 x1 y0]; split
    · subst_vars; intro e; omega
    · exact h.fx y y0 y1
  · exact h.lo y y0 y1
  · exact h.ix y y0 y1
theorem UF.join (h : UF j ρ) {M m : Int} (M0 : 0 ≤ M) (M1 : M < (j.length : Int)) (m0 : 0 ≤ m) (hm : m ≤ M) (rM : ρ M = M) (rm : ρ m = m) :
    UF (j.set M.toNat m) (fun x => if ρ x = M then m else ρ x) := by
  have L : ((j.set M.toNat m).length : Int) = (j.length : Int) := by rw [List.length_set]
  refine ⟨?_, ?_, ?_, ?_, ?_⟩ <;> intro y y0 y1 <;> rw [L] at y1
  · rw [el_set M0 M1 y0]; split
    · omega
    · exact h.up y y0 y1
  · rw [el_set M0 M1 y0]; split
    · subst_vars; rw [rm, rM, if_pos rfl]; split <;> rfl
    · rw [h.st y y0 y1]
  · rw [el_set M0 M1 y0]; split
    · subst_vars; intro e; rw [rM, if_pos rfl]; exact e
    · rename_i hy
      intro e
      rw [h.fx y y0 y1 e, if_neg hy]
  · have := h.lo y y0 y1
    split <;> omega
  · have := h.lo y y0 y1
    by_cases e : ρ y = M
    · rw [if_pos e, rm]; split <;> rfl
    · rw [if_neg e, h.ix y y0 y1, if_neg e]
end
end Go.Gx

/- Plain laws: labels numbered, elements joined: what the program does. -/
namespace Go.Gx
open Classical
set_option maxHeartbeats 1000000

theorem l01Classes_eq {l : List Int} (sl : Small l) : M.spec_l01Classes l = some (nrm l) := by
  apply Ret.eq
  unfold M.spec_l01Classes
  refine Ret.loop (l.length : Int) (fun i s => s = (tab i (fun i => cnt l (indexL l (el l i))), seenL l i, i)) (by omega) (by unfold Small at sl; omega) rfl ?_ ?_
  · rintro i s next i0 i1 rfl hn
    unfold Small at sl
    have hs := seenL_len (l := l) i
    have hc := cnt_le (l := l) i0
    have ht : (((tab i fun i => cnt l (indexL l (el l i))).length : Nat) : Int) = i := by rw [tab_length]; omega
    dsimp only
    rw [if_pos (decide_eq_true i1)]
    refine Ret.idx i0 i1 (Ret.call (l01Index_eq (by unfold Small; omega) _) ?_)
    have f := first_spec (l := l) (by unfold Small; omega) i0 i1
    by_cases hl : ldr l i = true
    · rw [seen_no (by unfold Small; omega) i0 i1 hl, if_pos (by decide)]
      have hf : indexL l (el l i) = i := by unfold ldr at hl; exact beq_iff_eq.1 hl
      refine Ret.chk (by unfold lim; simp only [List.length_cons, List.length_nil]; omega) (Ret.chk (by unfold lim; simp only [List.length_cons, List.length_nil]; omega) (hn _ ?_))
      rw [tab_succ _ i0, seen_next i0, if_pos hl, wrap_in (by omega) (by omega), hs, hf]
    · have hd := ldr_first (l := l) (by unfold Small; omega) i0 i1
      have hne : indexL l (el l i) ≠ i := fun e => hl (by unfold ldr; exact beq_iff_eq.2 e)
      have hs2 := seen_at (l := l) (i := i) (k := indexL l (el l i)) (by unfold Small; omega) (by omega) f.1.1 (by omega) hd
      rw [f.2.1] at hs2
      rw [hs2]
      have hc2 := cnt_le (l := l) f.1.1
      rw [if_neg (by simp; omega)]
      refine Ret.chk (by unfold lim; simp only [List.length_cons, List.length_nil]; omega) (hn _ ?_)
      rw [tab_succ _ i0, seen_next i0, if_neg hl, List.append_nil, wrap_in (by omega) (by omega)]
  · rintro s next rfl
    dsimp only
    rw [if_neg (by simp)]
    exact Ret.some rfl

/-! ### maps of numbers -/
theorem mget_mput {k k' v : Int} : ∀ m : List (Int × Int), mget k' (mput k v m) = if k' = k then some v else mget k' m
  | [] => by simp [mput, mget]
  | e :: m => by
    have ih := mget_mput (k := k) (k' := k') (v := v) m
    unfold mput
    by_cases h : k = e.1
    · rw [if_pos h]
      unfold mget
      by_cases h' : k' = k
      · simp [h']
      · rw [if_neg h', if_neg h', if_neg (by rw [← h]; exact h')]
    · rw [if_neg h]
      unfold mget
      by_cases h' : k' = e.1
      · rw [if_pos h', if_pos h', if_neg (by rw [h']; exact fun x => h x.symm)]
      · rw [if_neg h', if_neg h', ih]
theorem mput_new {k v : Int} : ∀ m : List (Int × Int), mget k m = none → (mput k v m).length = m.length + 1
  | [], _ => rfl
  | e :: m, h => by
    unfold mget at h
    unfold mput
    by_cases hk : k = e.1
    · rw [if_pos hk] at h; cases h
    · rw [if_neg hk] at h
      rw [if_neg hk, List.length_cons, mput_new m h, List.length_cons]

/-- What the numbering remembers before i. -/
structure NumM (l : List Int) (i : Int) (m : List (Int × Int)) : Prop where
  some : ∀ k, 0 ≤ k → k < i → ldr l k = true → mget (el l k) m = some (cnt l k)
  none : ∀ v, (∀ k, 0 ≤ k → k < i → el l k ≠ v) → mget v m = none
  len : (m.length : Int) = cnt l i

theorem normal_eq {l : List Int} (sl : Small l) : M.impl_normal l = some (nrm l) := by
  apply Ret.eq
  unfold M.impl_normal
  unfold Small at sl
  refine Ret.chk ⟨by omega, by unfold lim; omega⟩ ?_
  refine Ret.loop (l.length : Int) (fun i s => NumM l i s.1 ∧ s.2.1 = tab (l.length : Int) (fun j => if j < i then cnt l (indexL l (el l j)) else 0) ∧ s.2.2 = i) (by omega) (by omega) ⟨⟨fun k k0 k1 => by omega, fun v _ => rfl, rfl⟩, ?_, rfl⟩ ?_ ?_
  · dsimp only
    rw [rep_tab]
    apply tab_congr
    intro j j0 j1
    rw [if_neg (by omega)]
  · rintro i ⟨m, o, j⟩ next i0 i1 ⟨hm, ho, hj⟩ hn
    dsimp only at ho hj hm
    subst hj ho
    have f := first_spec (l := l) (by unfold Small; omega) i0 i1
    have hL : (((tab (l.length : Int) fun k => if k < j then cnt l (indexL l (el l k)) else 0).length : Nat) : Int) = (l.length : Int) := by rw [tab_length]; omega
    dsimp only
    rw [if_pos (decide_eq_true i1)]
    refine Ret.idx i0 i1 ?_
    have put : ∀ v : Int, v = cnt l (indexL l (el l j)) → (tab (l.length : Int) fun k => if k < j then cnt l (indexL l (el l k)) else 0).set j.toNat v = tab (l.length : Int) fun k => if k < j + 1 then cnt l (indexL l (el l k)) else 0 := by
      rintro v rfl
      rw [set_tab i0]
      apply tab_congr
      intro k k0 k1
      by_cases h : k = j
      · subst h; rw [if_pos rfl, if_pos (by omega)]
      · rw [if_neg h]
        by_cases h2 : k < j
        · rw [if_pos h2, if_pos (by omega)]
        · rw [if_neg h2, if_neg (by omega)]
    by_cases hl : ldr l j = true
    · have hno : mget (el l j) m = none := hm.none _ fun k k0 k1 => (ldr_iff (by unfold Small; omega) i0 i1).1 hl k k0 k1
      have hf : indexL l (el l j) = j := by unfold ldr at hl; exact beq_iff_eq.1 hl
      rw [hno, if_neg (by simp)]
      refine Ret.idx i0 (by omega) (hn _ ⟨⟨?_, ?_, ?_⟩, ?_, wrap_in (by omega) (by omega)⟩)
      · intro k k0 k1 hk
        dsimp only
        rw [mget_mput]
        by_cases h : k = j
        · subst h; rw [if_pos rfl, hm.len]
        · rw [if_neg, hm.some k k0 (by omega) hk]
          exact (ldr_iff (by unfold Small; omega) i0 i1).1 hl k k0 (by omega)
      · intro v hv
        dsimp only
        rw [mget_mput, if_neg (fun e => hv j i0 (by omega) e.symm)]
        exact hm.none v fun k k0 k1 => hv k k0 (by omega)
      · dsimp only
        rw [mput_new m hno, cnt_succ i0, if_pos hl, ← hm.len]; omega
      · dsimp only
        exact put _ (by rw [hm.len, hf])
    · have hd := ldr_first (l := l) (by unfold Small; omega) i0 i1
      have hne : indexL l (el l j) ≠ j := fun e => hl (by unfold ldr; exact beq_iff_eq.2 e)
      have hs := hm.some _ f.1.1 (by omega) hd
      rw [f.2.1] at hs
      rw [hs, Option.isSome_some, if_pos rfl]
      refine Ret.idx i0 (by omega) (hn _ ⟨⟨?_, ?_, ?_⟩, ?_, wrap_in (by omega) (by omega)⟩)
      · intro k k0 k1 hk
        by_cases h : k = j
        · subst h; exact absurd hk hl
        · exact hm.some k k0 (by omega) hk
      · intro v hv
        exact hm.none v fun k k0 k1 => hv k k0 (by omega)
      · dsimp only
        rw [cnt_succ i0, if_neg hl, hm.len]; omega
      · dsimp only
        exact put _ rfl
  · rintro ⟨m, o, j⟩ next ⟨hm, ho, hj⟩
    dsimp only at ho hj hm
    subst hj ho
    dsimp only
    rw [if_neg (by simp)]
    refine Ret.some ?_
    unfold nrm
    apply tab_congr
    intro k k0 k1
    rw [if_pos k1]

/-! ### joined labels -/
/-- Pairs in range. -/
def PairsIn (n : Int) (p : List (List Int)) : Prop := ∀ k, 0 ≤ k → k < (p.length : Int) → 2 ≤ ((el p k).length : Int) ∧ (0 ≤ el (el p k) 0 ∧ el (el p k) 0 < n) ∧ (0 ≤ el (el p k) 1 ∧ el (el p k) 1 < n)
/-- x and y are one of the first i pairs. -/
def PairAt (p : List (List Int)) (i : Int) (x y : Int) : Prop := ∃ k, 0 ≤ k ∧ k < i ∧ x = el (el p k) 0 ∧ y = el (el p k) 1
theorem pairAt_zero (p : List (List Int)) (x y : Int) : PairAt p 0 x y ↔ False := by
  constructor
  · rintro ⟨k, k0, k1, _⟩; omega
  · exact False.elim
theorem pairAt_succ {p : List (List Int)} {i : Int} (i0 : 0 ≤ i) (x y : Int) : PairAt p (i + 1) x y ↔ PairAt p i x y ∨ (x = el (el p i) 0 ∧ y = el (el p i) 1) := by
  constructor
  · rintro ⟨k, k0, k1, h⟩
    by_cases e : k = i
    · subst e; exact .inr h
    · exact .inl ⟨k, k0, by omega, h⟩
  · rintro (⟨k, k0, k1, h⟩ | h)
    · exact ⟨k, k0, by omega, h⟩
    · exact ⟨i, i0, by omega, h⟩

/-- The labels behind all pairs. -/
theorem l01Join_r {n : Int} {p : List (List Int)} (n0 : 0 ≤ n) (n1 : n ≤ 1048576) (sp : (p.length : Int) ≤ 1073741824) (hp : PairsIn n p) :
    Ret (M.spec_l01Join n p) fun r => ∃ l, r = nrm l ∧ (l.length : Int) = n ∧ Ker n (el l) (Eqv (PairAt p (p.length : Int))) := by
  unfold M.spec_l01Join
  refine Ret.acc n (fun i s => s = tab i fun x => x) n0 (by omega) rfl ?_ ?_
  · rintro i s next i0 i1 rfl hn
    have ht : (((tab i fun x => x).length : Nat) : Int) = i := by rw [tab_length]; omega
    dsimp only
    rw [if_pos (decide_eq_true i1)]
    exact Ret.chk (by unfold lim; simp only [List.length_cons, List.length_nil]; omega) (hn _ (tab_succ (fun x => x) i0).symm)
  rintro s next rfl
  dsimp only
  rw [if_neg (by simp)]
  refine Ret.acc (p.length : Int) (fun i s => (s.length : Int) = n ∧ Ker n (el s) (Eqv (PairAt p i))) (by omega) (by omega) ⟨by rw [tab_length]; omega, ?_⟩ ?_ ?_
  · refine (Ker.none fun i j i0 i1 j0 j1 e => ?_).congr fun i j => Eqv.congr (fun x y h => h.elim) (fun x y h => ((pairAt_zero p x y).1 h).elim)
    rwa [el_tab i0 i1, el_tab j0 j1] at e
  · rintro i s next i0 i1 ⟨hl, hk⟩ hn
    obtain ⟨h2, ⟨a0, a1⟩, ⟨b0, b1⟩⟩ := hp i i0 i1
    dsimp only
    rw [if_pos (decide_eq_true i1)]
    refine Ret.idx i0 i1 (Ret.idx (by omega) (by omega) (Ret.idx a0 (by omega) (Ret.idx (by omega) (by omega) (Ret.idx b0 (by omega) ?_))))
    have w : IntKind.i64.wrap (i + 1) = i + 1 := wrap_in (by omega) (by omega)
    by_cases hne : el s (el (el p i) 0) = el s (el (el p i) 1)
    · -- the labels are one already
      have hk' : Ker n (el s) (Eqv (PairAt p (i + 1))) := by
        refine hk.congr fun x y => Eqv.congr (fun x y h => .of ((pairAt_succ i0 x y).2 (.inl h))) (fun x y h => ?_)
        rcases (pairAt_succ i0 x y).1 h with h | ⟨rfl, rfl⟩
        · exact .of h
        · exact (hk _ _ a0 a1 b0 b1).1 hne
      refine Ret.loop 0 (fun _ t => t = (s, 0)) (by omega) (by omega) rfl (fun _ _ _ _ h => by omega) ?_
      rintro t nx rfl
      dsimp only
      by_cases h0 : (0 : Int) < (s.length : Int)
      · rw [if_pos (decide_eq_true h0), if_neg (by simp [hne])]
        exact hn s ⟨hl, hk'⟩
      · rw [if_neg (by simp; omega)]
        exact hn s ⟨hl, hk'⟩
    · refine Ret.acc (s.length : Int) (fun j t => t = tab (s.length : Int) fun x => if x < j ∧ el s x = el s (el (el p i) 1) then el s (el (el p i) 0) else el s x) (by omega) (by omega) ?_ ?_ ?_
      · rw [← tab_el s]
        rw [tab_el s]
        conv => lhs; rw [← tab_el s]
        apply tab_congr
        intro x x0 x1
        rw [if_neg (by omega)]
      · rintro j t nx j0 j1 rfl hnx
        have hL : (((tab (s.length : Int) fun x => if x < j ∧ el s x = el s (el (el p i) 1) then el s (el (el p i) 0) else el s x).length : Nat) : Int) = (s.length : Int) := by rw [tab_length]; omega
        dsimp only
        rw [hL, if_pos (decide_eq_true j1), if_pos (by simpa using hne)]
        refine Ret.idx j0 (by omega) ?_
        have eT : el (tab (s.length : Int) fun x => if x < j ∧ el s x = el s (el (el p i) 1) then el s (el (el p i) 0) else el s x) j = el s j := by
          rw [el_tab j0 j1]
          exact if_neg (fun h => by omega)
        rw [eT]
        by_cases e : el s j = el s (el (el p i) 1)
        · rw [if_pos (by simpa using e)]
          refine hnx _ ?_
          rw [set_tab j0]
          apply tab_congr
          intro x x0 x1
          by_cases h : x = j
          · subst h; rw [if_pos rfl, if_pos ⟨by omega, e⟩]
          · rw [if_neg h]
            by_cases h2 : x < j ∧ el s x = el s (el (el p i) 1)
            · rw [if_pos h2, if_pos ⟨by omega, h2.2⟩]
            · rw [if_neg h2, if_neg (fun z => h2 ⟨by omega, z.2⟩)]
        · rw [if_neg (by simpa using e)]
          refine hnx _ ?_
          apply tab_congr
          intro x x0 x1
          by_cases h2 : x < j ∧ el s x = el s (el (el p i) 1)
          · rw [if_pos h2, if_pos ⟨by omega, h2.2⟩]
          · rw [if_neg h2, if_neg (fun z => h2 ⟨by
              rcases Int.lt_trichotomy x j with q | q | q
              · exact q
              · subst q; exact absurd z.2 e
              · omega, z.2⟩)]
      · rintro t nx rfl
        have hL : (((tab (s.length : Int) fun x => if x < (s.length : Int) ∧ el s x = el s (el (el p i) 1) then el s (el (el p i) 0) else el s x).length : Nat) : Int) = (s.length : Int) := by rw [tab_length]; omega
        dsimp only
        rw [hL, if_neg (by simp)]
        refine hn _ ⟨by omega, ?_⟩
        have hm := hk.merge a0 a1 b0 b1 (.inl ⟨rfl, rfl⟩)
        have hm2 := hm.congr (S := Eqv (PairAt p (i + 1))) fun x y => Eqv.congr (fun x y h => .of ((pairAt_succ i0 x y).2 h)) (fun x y h => .of ((pairAt_succ i0 x y).1 h))
        intro x y x0 x1 y0 y1
        rw [el_tab x0 (by omega), el_tab y0 (by omega), ← hm2 x y x0 x1 y0 y1]
        have q : ∀ z, z < n → (if z < (s.length : Int) ∧ el s z = el s (el (el p i) 1) then el s (el (el p i) 0) else el s z) = if el s z = el s (el (el p i) 1) then el s (el (el p i) 0) else el s z := by
          intro z z1
          by_cases h : el s z = el s (el (el p i) 1)
          · rw [if_pos ⟨by omega, h⟩, if_pos h]
          · rw [if_neg (fun w => h w.2), if_neg h]
        rw [q x x1, q y y1]
  · rintro s next ⟨hl, hk⟩
    dsimp only
    rw [if_neg (by simp)]
    refine Ret.call (l01Classes_eq (by unfold Small; omega)) (Ret.some ⟨s, rfl, hl, hk⟩)

/-! ### the forest -/
theorem joinerOf_eq {n : Int} (n0 : 0 ≤ n) (n1 : n ≤ 1048576) : M.impl_joinerOf n = some (tab n fun x => x) := by
  unfold M.impl_joinerOf
  rw [numbers_eq n0 n1]; rfl

theorem root_r {j : List Int} {ρ : Int → Int} (h : UF j ρ) (sj : Small j) {x : Int} (x0 : 0 ≤ x) (x1 : x < (j.length : Int)) :
    Ret (M.impl_joiner_root j x) fun r => r.1 = ρ x ∧ UF r.2 ρ ∧ r.2.length = j.length ∧ ρ (ρ x) = ρ x := by
  unfold M.impl_joiner_root
  unfold Small at sj
  refine Ret.loop x (fun i s => UF s.1 ρ ∧ s.1.length = j.length ∧ ρ s.2 = ρ x ∧ 0 ≤ s.2 ∧ s.2 ≤ x - i) x0 (by omega) ⟨h, rfl, rfl, x0, by omega⟩ ?_ ?_
  · rintro i ⟨s, z⟩ next i0 i1 ⟨hu, hl, hr, z0, z1⟩ hn
    dsimp only at hu hl hr z0 z1 ⊢
    have u := hu.up z z0 (by omega)
    refine Ret.idx z0 (by omega) ?_
    by_cases e : el s z = z
    · rw [if_neg (by simpa using e)]
      have := hu.fx z z0 (by omega) e
      exact Ret.some ⟨by rw [← hr, this], hu, hl, hu.ix x x0 (by omega)⟩
    · rw [if_pos (by simpa using e)]
      have u2 := hu.up (el s z) u.1 (by omega)
      have L : ((s.set z.toNat (el s (el s z))).length : Int) = (s.length : Int) := by rw [List.length_set]
      refine Ret.idx u.1 (by omega) (Ret.idx z0 (by omega) (hn _ ?_))
      rw [el_set z0 (by omega) z0, if_pos rfl]
      exact ⟨hu.halve z0 (by omega) e, by rw [List.length_set]; exact hl, by dsimp only; rw [hu.st _ u.1 (by omega), hu.st z z0 (by omega), hr], u2.1, by dsimp only; omega⟩
  · rintro ⟨s, z⟩ next ⟨hu, hl, hr, z0, z1⟩
    dsimp only at hu hl hr z0 z1 ⊢
    have u := hu.up z z0 (by omega)
    have e : el s z = z := by omega
    refine Ret.idx z0 (by omega) ?_
    rw [if_neg (by simpa using e)]
    have := hu.fx z z0 (by omega) e
    exact Ret.some ⟨by rw [← hr, this], hu, hl, hu.ix x x0 (by omega)⟩

theorem join_r {j : List Int} {ρ : Int → Int} {P : Int → Int → Prop} (h : UF j ρ) (sj : Small j) (hk : Ker (j.length : Int) ρ (Eqv P)) {x y : Int} (x0 : 0 ≤ x) (x1 : x < (j.length : Int)) (y0 : 0 ≤ y) (y1 : y < (j.length : Int)) :
    Ret (M.impl_joiner_join j x y) fun r => ∃ ρ', UF r.2 ρ' ∧ r.2.length = j.length ∧ Ker (j.length : Int) ρ' (Eqv fun a b => P a b ∨ (a = x ∧ b = y)) := by
  unfold M.impl_joiner_join
  refine Ret.bind (root_r h sj x0 x1) ?_
  rintro ⟨a, j1⟩ ⟨ea, h1, l1, ia⟩
  dsimp only at ea h1 l1 ⊢
  subst ea
  refine Ret.bind (root_r h1 (by unfold Small at *; omega) y0 (by omega)) ?_
  rintro ⟨b, j2⟩ ⟨eb, h2, l2, ib⟩
  dsimp only at eb h2 l2 ⊢
  subst eb
  have la := h.lo x x0 x1
  have lb := h.lo y y0 y1
  by_cases hab : ρ y > ρ x
  · rw [if_pos hab, if_neg (by omega)]
    refine Ret.idx (by omega) (by omega) (Ret.some ⟨_, h2.join (M := ρ y) (m := ρ x) (by omega) (by omega) (by omega) (by omega) ib ia, by rw [List.length_set]; omega, hk.merge x0 x1 y0 y1 (.inl ⟨rfl, rfl⟩)⟩)
  · rw [if_neg hab]
    by_cases hba : ρ y < ρ x
    · rw [if_pos hba]
      refine Ret.idx (by omega) (by omega) (Ret.some ⟨_, h2.join (M := ρ x) (m := ρ y) (by omega) (by omega) (by omega) (by omega) ia ib, by rw [List.length_set]; omega, hk.merge x0 x1 y0 y1 (.inr ⟨rfl, rfl⟩)⟩)
    · rw [if_neg hba]
      refine Ret.idx (by omega) (by omega) (Ret.some ⟨_, h2.join (M := ρ x) (m := ρ x) (by omega) (by omega) (by omega) (by omega) ia ia, by rw [List.length_set]; omega, hk.merge x0 x1 y0 y1 (.inr ⟨by omega, rfl⟩)⟩)

theorem partition_r {j : List Int} {ρ : Int → Int} (h : UF j ρ) (sj : Small j) : Ret (M.impl_joiner_partition j) fun r => r.1 = nrm (tab (j.length : Int) ρ) := by
  unfold M.impl_joiner_partition
  unfold Small at sj
  refine Ret.chk ⟨by omega, by unfold lim; omega⟩ ?_
  refine Ret.loop (j.length : Int) (fun i s => UF s.1 ρ ∧ s.1.length = j.length ∧ s.2.1 = tab (j.length : Int) (fun k => if k < i then ρ k else 0) ∧ s.2.2 = i) (by omega) (by omega) ⟨h, rfl, ?_, rfl⟩ ?_ ?_
  · dsimp only
    rw [rep_tab]
    apply tab_congr
    intro k k0 k1
    rw [if_neg (by omega)]
  · rintro i ⟨s, o, q⟩ next i0 i1 ⟨hu, hl, ho, hq⟩ hn
    dsimp only at hu hl ho hq
    subst ho hq
    have hL : (((tab (j.length : Int) fun k => if k < q then ρ k else 0).length : Nat) : Int) = (j.length : Int) := by rw [tab_length]; omega
    dsimp only
    rw [if_pos (decide_eq_true i1)]
    refine Ret.bind (root_r hu (by unfold Small; omega) i0 (by omega)) ?_
    rintro ⟨a, s'⟩ ⟨ea, h1, l1, ia⟩
    dsimp only at ea h1 l1 ⊢
    refine Ret.idx i0 (by omega) (hn _ ⟨h1, by show s'.length = j.length; omega, ?_, wrap_in (by omega) (by omega)⟩)
    dsimp only
    rw [set_tab i0]
    apply tab_congr
    intro k k0 k1
    by_cases e : k = q
    · subst e; rw [if_pos rfl, if_pos (by omega), ea]
    · rw [if_neg e]
      by_cases h3 : k < q
      · rw [if_pos h3, if_pos (by omega)]
      · rw [if_neg h3, if_neg (by omega)]
  · rintro ⟨s, o, q⟩ next ⟨hu, hl, ho, hq⟩
    dsimp only at hu hl ho hq
    subst ho hq
    have hL : (((tab (j.length : Int) fun k => if k < (j.length : Int) then ρ k else 0).length : Nat) : Int) = (j.length : Int) := by rw [tab_length]; omega
    dsimp only
    rw [if_neg (by simp)]
    refine Ret.call (normal_eq (by unfold Small; omega)) (Ret.some ?_)
    dsimp only
    rw [tab_congr fun k k0 k1 => if_pos k1]

/-- How many classes there are. -/
theorem classes_r {l : List Int} (sl : Small l) : Ret (M.impl_partition_classes (nrm l)) fun r => r = cnt l (l.length : Int) := by
  unfold M.impl_partition_classes
  have hn := nrm_len (l := l)
  unfold Small at sl
  refine Ret.acc ((nrm l).length : Int) (fun i s => s = cnt l i) (by omega) (by omega) rfl ?_ ?_
  · rintro i s next i0 i1 rfl hn2
    have f := first_spec (l := l) (by unfold Small; omega) i0 (by omega)
    have c1 := cnt_le (l := l) f.1.1
    have ci := cnt_le (l := l) i0
    dsimp only
    rw [if_pos (decide_eq_true i1)]
    refine Ret.idx i0 i1 ?_
    rw [nrm_el i0 (by omega)]
    have w : IntKind.i64.wrap (cnt l (indexL l (el l i)) + 1) = cnt l (indexL l (el l i)) + 1 := wrap_in (by omega) (by omega)
    rw [w]
    refine hn2 _ ?_
    rw [cnt_succ i0]
    by_cases hl : ldr l i = true
    · have hf : indexL l (el l i) = i := by unfold ldr at hl; exact beq_iff_eq.1 hl
      rw [hf, if_pos hl, if_pos (by omega)]
    · have hne : indexL l (el l i) ≠ i := fun e => hl (by unfold ldr; exact beq_iff_eq.2 e)
      have := cnt_lt (l := l) (j := i) f.1.1 (by omega) (ldr_first (by unfold Small; omega) i0 (by omega))
      rw [if_neg hl, if_neg (by omega)]; omega
  · rintro s next rfl
    dsimp only
    rw [if_neg (by simp)]
    exact Ret.some (by rw [hn])
end Go.Gx

/- The law of HomProfunctor. -/
namespace Go.Gx
open Classical
set_option maxHeartbeats 1000000

/-! ### marks on lists of lists of lists -/
def rS (x : List (List Int)) (k : Int) : Int × List (List Int) := (M.laws_markInt64SS x k).getD (0, [])
def ksN (l : List (List (List Int))) (k : Int) : Nat → Int
  | 0 => k
  | i + 1 => (rS (el l (i : Int)) (ksN l k i)).1
def ks (l : List (List (List Int))) (k i : Int) : Int := ksN l k i.toNat
def SmallR (r : List (List Int)) : Prop := Small r ∧ ∀ q ∈ r, Small q

structure SmallP (p : XProfunctor) : Prop where
  s1 : SmallC p.Source
  s2 : SmallC p.Target
  s3 : SmallR p.Sizes
  l4 : (p.Before.length : Int) ≤ 1024
  s4 : ∀ r ∈ p.Before, SmallR r
  l5 : (p.Behind.length : Int) ≤ 1024
  s5 : ∀ r ∈ p.Behind, SmallR r

/-! ### the identity -/
end Go.Gx

/- Plain laws: set functors. -/
namespace Go.Gx
open Classical
set_option maxHeartbeats 4000000

structure SmallG (F : XSetFunctor) : Prop where
  s1 : SmallC F.Shape
  s2 : Small F.Sizes
  s3 : Small F.Actions
  s4 : ∀ r ∈ F.Actions, Small r
structure FitsG (F : XSetFunctor) : Prop where
  f1 : FitsC F.Shape
  f2 : Fits F.Sizes
  f3 : Fits F.Actions
  f4 : ∀ r ∈ F.Actions, Fits r
/-! ### which are set functors -/
def ActOk (F : XSetFunctor) (a : Int) : Prop := ((el F.Actions a).length : Int) = el F.Sizes (el F.Shape.From a) ∧ In (el F.Sizes (el F.Shape.To a)) (el F.Actions a)
structure ShpG (F : XSetFunctor) : Prop where
  cat : IsCat F.Shape
  ls : (F.Sizes.length : Int) = F.Shape.Objects
  la : (F.Actions.length : Int) = (F.Shape.From.length : Int)
  siz : ∀ i, 0 ≤ i → i < (F.Sizes.length : Int) → 0 ≤ el F.Sizes i ∧ el F.Sizes i ≤ 16
  act : ∀ a, 0 ≤ a → a < (F.Actions.length : Int) → ActOk F a

/-- The image of e under the action of a. -/
abbrev act (F : XSetFunctor) (a e : Int) : Int := el (el F.Actions a) e
def UnitG (F : XSetFunctor) : Prop := ∀ x, 0 ≤ x → x < F.Shape.Objects → ∀ e, 0 ≤ e → e < el F.Sizes x → act F (el F.Shape.Identity x) e = e
def CompG (F : XSetFunctor) : Prop := ∀ f, 0 ≤ f → f < (F.Shape.From.length : Int) → ∀ g, 0 ≤ g → g < (F.Shape.From.length : Int) → el F.Shape.To f = el F.Shape.From g →
  ∀ e, 0 ≤ e → e < el F.Sizes (el F.Shape.From f) → act F (cmp F.Shape f g) e = act F g (act F f e)

def IsSet (F : XSetFunctor) : Prop := ShpG F ∧ UnitG F ∧ CompG F

end Go.Gx

/- The law of SumSets. -/
namespace Go.Gx
open Classical
set_option maxHeartbeats 2000000

/-- Two set functors on one shape. -/
structure TwoG (F G : XSetFunctor) : Prop where
  f : IsSet F
  g : IsSet G
  e : F.Shape = G.Shape

/-- What the indices need. -/
theorem TwoG.sz {F G : XSetFunctor} (h : TwoG F G) {x : Int} (x0 : 0 ≤ x) (x1 : x < (F.Sizes.length : Int)) :
    x < (G.Sizes.length : Int) ∧ (0 ≤ el F.Sizes x ∧ el F.Sizes x ≤ 16) ∧ (0 ≤ el G.Sizes x ∧ el G.Sizes x ≤ 16) := by
  have l1 := h.f.1.ls
  have l2 := h.g.1.ls
  rw [← h.e] at l2
  exact ⟨by omega, h.f.1.siz x x0 x1, h.g.1.siz x x0 (by omega)⟩
theorem TwoG.ac {F G : XSetFunctor} (h : TwoG F G) {a : Int} (a0 : 0 ≤ a) (a1 : a < (F.Actions.length : Int)) :
    a < (G.Actions.length : Int) ∧ a < (F.Shape.To.length : Int) ∧ (0 ≤ el F.Shape.To a ∧ el F.Shape.To a < (F.Sizes.length : Int)) ∧ ((el F.Actions a).length : Int) ≤ 16 ∧ ((el G.Actions a).length : Int) ≤ 16 ∧
    ∀ i, 0 ≤ i → i < ((el G.Actions a).length : Int) → 0 ≤ el (el G.Actions a) i ∧ el (el G.Actions a) i ≤ 1048576 := by
  have l1 := h.f.1.la
  have l2 := h.g.1.la
  have l3 := h.f.1.ls
  have l4 := h.g.1.ls
  have e := h.e
  rw [← e] at l2 l4
  have hc := h.f.1.cat.1.shp
  have lt := hc.lto
  have t := hc.to_in a a0 (by omega)
  have s := hc.from_in a a0 (by omega)
  have f1 := (h.f.1.act a a0 a1).1
  have g1 := (h.g.1.act a a0 (by omega)).1
  have g2 := (h.g.1.act a a0 (by omega)).2
  rw [← e] at g1 g2
  have z1 := h.f.1.siz _ s.1 (by omega)
  have z2 := h.g.1.siz _ s.1 (by omega)
  have z3 := h.g.1.siz _ t.1 (by omega)
  refine ⟨by omega, by omega, ⟨t.1, by omega⟩, by omega, by omega, fun i i0 i1 => ?_⟩
  have := g2 i i0 i1
  omega

end Go.Gx

/- Plain laws: profunctors with a limit; loops that lay lists one behind the other. -/
namespace Go.Gx
open Classical
set_option maxHeartbeats 1000000

/-! ### lists one behind the other -/
def cat (n : Int) (H : Int → List Int) : List Int := (tab n H).flatten
end Go.Gx
