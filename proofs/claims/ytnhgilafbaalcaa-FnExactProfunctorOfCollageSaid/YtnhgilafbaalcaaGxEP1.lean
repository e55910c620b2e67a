/- Laid together: part 1. -/
import Derived.Test.YtnhgilafbaalcaaGxEP0
import Derived.Test.YtnhgilafbaalcaaGxEM0
/- Plain laws: products of categories. -/
namespace Go.Gx
open Classical
set_option maxHeartbeats 2000000

theorem mulb {i j n m : Int} (i0 : 0 ≤ i) (h : i < n) (h0 : 0 ≤ j) (h1 : j < m) : 0 ≤ i * m ∧ i * m + j < n * m ∧ i * m + m ≤ n * m := by
  have e1 : (i + 1) * m ≤ n * m := Int.mul_le_mul_of_nonneg_right (by omega) (by omega)
  rw [Int.add_mul, Int.one_mul] at e1
  have e2 := Int.mul_nonneg i0 (show 0 ≤ m by omega)
  omega
theorem mulB {n m N M : Int} (h0 : 0 ≤ n) (h1 : n ≤ N) (h2 : 0 ≤ m) (h3 : m ≤ M) : 0 ≤ n * m ∧ n * m ≤ N * M :=
  ⟨Int.mul_nonneg h0 h2, Int.mul_le_mul h1 h3 h2 (by omega)⟩
theorem parts {k n m : Int} (h0 : 0 ≤ k) (h1 : k < n * m) (hm : 0 ≤ m) : 0 < m ∧ 0 ≤ k / m ∧ k / m < n ∧ 0 ≤ k % m ∧ k % m < m := by
  have hm : 0 < m := by
    rcases Int.lt_or_eq_of_le hm with h | h
    · exact h
    · rw [← h, Int.mul_zero] at h1; omega
  exact ⟨hm, Int.ediv_nonneg h0 (by omega), Int.ediv_lt_of_lt_mul hm h1, Int.emod_nonneg _ (by omega), Int.emod_lt_of_pos _ hm⟩
/-- Two numbers as one, over all pairs. -/
abbrev tab2 {α : Type} (n m : Int) (f : Int → Int → α) : List α := tab (n * m) fun k => f (k / m) (k % m)
theorem tab_len' (n : Int) {α : Type} (f : Int → α) (h : 0 ≤ n) : ((tab n f).length : Int) = n := by rw [tab_length]; omega

end Go.Gx

/- Plain laws: the product as impl makes it; projections. -/
namespace Go.Gx
open Classical
set_option maxHeartbeats 2000000

end Go.Gx

/- Plain laws: pairs of lists; products of functors. -/
namespace Go.Gx
open Classical
set_option maxHeartbeats 1000000

abbrev pairF (a b : List Int) (n : Int) (i j : Int) : Int := el a i * n + el b j
def pairL (a b : List Int) (n : Int) : List Int := tab2 (a.length : Int) (b.length : Int) (pairF a b n)
/-- Codes of pairs are small numbers. -/
structure PairOk (a b : List Int) (n A : Int) : Prop where
  hA : A ≤ 40
  hn : n ≤ 40
  la : (a.length : Int) ≤ 40
  lb : (b.length : Int) ≤ 40
  ia : In A a
  ib : In n b

theorem PairOk.len {a b : List Int} {n A : Int} (h : PairOk a b n A) {i j : Int} (i0 : 0 ≤ i) (i1 : i < (a.length : Int)) (j0 : 0 ≤ j) (j1 : j < (b.length : Int)) (F : Int → Int) :
    ((tab (i * (b.length : Int) + j) F).length : Int) ≤ 1600 := by
  have hb1 := mulb i0 i1 j0 j1
  have hB := mulB (n := (a.length : Int)) (m := (b.length : Int)) (N := 40) (M := 40) (by omega) h.la (by omega) h.lb
  rw [tab_len' _ _ (by omega)]; omega
theorem PairOk.small {a b : List Int} {n A : Int} (h : PairOk a b n A) : Small (pairL a b n) := by
  have hB := mulB (n := (a.length : Int)) (m := (b.length : Int)) (N := 40) (M := 40) (by omega) h.la (by omega) h.lb
  unfold Small pairL; rw [tab_len' _ _ hB.1]; omega

/-- A loop that pushes F 0, F 1, .. -/
theorem push_loop {α ρ : Type} {n : Int} (h0 : 0 ≤ n) (hf : n < 4294967296) {F : Int → α} {step : List α × Int → (List α × Int → Option ρ) → Option ρ} {Q : ρ → Prop}
    (hgo : ∀ (i : Int) next, 0 ≤ i → i < n → ((tab i F).length : Int) = i → Ret (next (tab i F ++ [F i], IntKind.i64.wrap (i + 1))) Q → Ret (step (tab i F, i) next) Q)
    (hend : ∀ next, Ret (step (tab n F, n) next) Q) : Ret (iter step fuel (([] : List α), 0)) Q := by
  refine Ret.acc n (fun i s => s = tab i F) h0 hf rfl ?_ ?_
  · rintro i s next i0 i1 rfl hn
    exact hgo i next i0 i1 (tab_len' _ _ i0) (hn _ (tab_succ F i0).symm)
  · rintro s next rfl
    exact hend next

end Go.Gx

/- The law of InverseFunctor. -/
namespace Go.Gx
open Classical
set_option maxHeartbeats 1000000

theorem l01Has_eq {l : List Int} (h : Small l) (x : Int) : M.spec_l01Has l x = some (decide (x ∈ l)) := by
  apply Ret.ask
  unfold M.spec_l01Has
  simp only [decide_eq_true_eq, beq_iff_eq]
  refine Ret.all (l.length : Int) (fun i => el l i ≠ x) (by omega) (by omega) ?_ ?_
  · intro i next hi0 hi1 hp hn1
    rw [if_pos hi1]
    refine Ret.idx hi0 hi1 (Ret.ite (fun he => Ret.some ?_) (fun he => hn1 he))
    exact ⟨fun _ => he ▸ el_mem hi0 hi1, fun _ => rfl⟩
  · intro next hp
    rw [if_neg (by omega)]
    refine Ret.some ⟨(fun h => by cases h), fun hx => ?_⟩
    obtain ⟨i, h0, h1, e⟩ := mem_el hx
    exact absurd e (hp i h0 h1)

end Go.Gx

/- Plain laws: places in lists; full parts of a category. -/
namespace Go.Gx
open Classical
set_option maxHeartbeats 1000000

/-! ### places -/
theorem indexL_at {l : List Int} (hl : Small l) {i : Int} (i0 : 0 ≤ i) (i1 : i < (l.length : Int)) (hn : ∀ j, 0 ≤ j → j < i → el l j ≠ el l i) : indexL l (el l i) = i := by
  have h : Ret (M.spec_l01Index l (el l i)) fun r => r = i := by
    unfold M.spec_l01Index
    simp only [beq_iff_eq]
    refine Ret.all (l.length : Int) (fun j => el l j ≠ el l i) (by omega) (by omega) ?_ ?_
    · intro j next j0 j1 hp hn1
      rw [if_pos (decide_eq_true j1)]
      refine Ret.idx j0 j1 (Ret.ite (fun h => Ret.some ?_) (fun h => hn1 h))
      rcases Int.lt_trichotomy j i with h1 | h1 | h1
      · exact absurd h (hn j j0 h1)
      · exact h1
      · exact absurd rfl (hp i i0 h1)
    · intro next hp
      exact absurd rfl (hp i i0 i1)
  rw [l01Index_eq hl] at h
  obtain ⟨r, e, rfl⟩ := h
  exact Option.some.inj e
theorem indexL_no {l : List Int} (hl : Small l) {v : Int} (hv : v ∉ l) : indexL l v = -1 := by
  have h : Ret (M.spec_l01Index l v) fun r => r = -1 := by
    unfold M.spec_l01Index
    simp only [beq_iff_eq]
    refine Ret.all (l.length : Int) (fun _ => True) (by omega) (by omega) ?_ ?_
    · intro j next j0 j1 hp hn1
      rw [if_pos (decide_eq_true j1)]
      refine Ret.idx j0 j1 (Ret.ite (fun h => absurd (h ▸ el_mem j0 j1) hv) (fun h => hn1 trivial))
    · intro next hp
      rw [if_neg (by simp)]
      exact Ret.some rfl
  rw [l01Index_eq hl] at h
  obtain ⟨r, e, rfl⟩ := h
  exact Option.some.inj e
theorem nodup_el {l : List Int} (h : l.Nodup) {i j : Int} (i0 : 0 ≤ i) (i1 : i < (l.length : Int)) (j0 : 0 ≤ j) (j1 : j < (l.length : Int)) (e : el l i = el l j) : i = j := by
  have hp := List.pairwise_iff_getElem.1 (show List.Pairwise (fun a b : Int => a ≠ b) l from h)
  have ei : el l i = l[i.toNat]'(by omega) := by
    have := el_get (l := l) (k := i.toNat) (by omega)
    rwa [show ((i.toNat : Nat) : Int) = i by omega] at this
  have ej : el l j = l[j.toNat]'(by omega) := by
    have := el_get (l := l) (k := j.toNat) (by omega)
    rwa [show ((j.toNat : Nat) : Int) = j by omega] at this
  rcases Int.lt_trichotomy i j with h1 | h1 | h1
  · exact absurd (by rw [← ei, ← ej]; exact e) (hp i.toNat j.toNat (by omega) (by omega) (by omega))
  · exact h1
  · exact absurd (by rw [← ei, ← ej]; exact e.symm) (hp j.toNat i.toNat (by omega) (by omega) (by omega))
theorem indexL_el {l : List Int} (hl : Small l) (h : l.Nodup) {i : Int} (i0 : 0 ≤ i) (i1 : i < (l.length : Int)) : indexL l (el l i) = i :=
  indexL_at hl i0 i1 fun j j0 j1 e => by have := nodup_el h j0 (by omega) i0 i1 e; omega
theorem indexL_in {l : List Int} (hl : Small l) (h : l.Nodup) {v : Int} (hv : v ∈ l) : (0 ≤ indexL l v ∧ indexL l v < (l.length : Int)) ∧ el l (indexL l v) = v := by
  obtain ⟨i, i0, i1, rfl⟩ := mem_el hv
  rw [indexL_el hl h i0 i1]
  exact ⟨⟨i0, i1⟩, rfl⟩

theorem fil_more {i : Int} (p : Int → Bool) (h : 0 ≤ i) : ∀ k : Nat, ∃ t, fil (i + (k : Int)) p = fil i p ++ t
  | 0 => ⟨[], by simp⟩
  | k + 1 => by
    obtain ⟨t, e⟩ := fil_more p h k
    rw [show i + ((k + 1 : Nat) : Int) = (i + (k : Int)) + 1 by omega, fil_succ p (by omega), e]
    exact ⟨t ++ _, by rw [List.append_assoc]⟩
/-- Where a number that passes lies. -/
theorem fil_place {n i : Int} (p : Int → Bool) (i0 : 0 ≤ i) (i1 : i < n) (hp : p i = true) (hn : n ≤ 1048576) : indexL (fil n p) i = ((fil i p).length : Int) := by
  obtain ⟨t, e⟩ := fil_more p (show 0 ≤ i + 1 by omega) (n - (i + 1)).toNat
  rw [show i + 1 + (((n - (i + 1)).toNat : Nat) : Int) = n by omega, fil_succ p i0, hp] at e
  simp only [if_true] at e
  have hl := fil_length_le n p
  have hlen : (fil i p).length < (fil n p).length := by rw [e]; simp only [List.length_append, List.length_cons]; omega
  have he : el (fil n p) ((fil i p).length : Int) = i := by
    rw [el_get hlen]
    simp only [e, List.append_assoc]
    rw [List.getElem_append_right (Nat.le_refl _)]
    simp
  have := indexL_el (l := fil n p) (by unfold Small; omega) (fil_nodup n p) (i := ((fil i p).length : Int)) (by omega) (by omega)
  rwa [he] at this

/-! ### full parts -/
noncomputable def fullL (c : XCategory) (o : List Int) : List Int := fil (c.From.length : Int) fun f => decide (el c.From f ∈ o) && decide (el c.To f ∈ o)
theorem fullL_mem {c : XCategory} {o : List Int} {f : Int} : f ∈ fullL c o ↔ 0 ≤ f ∧ f < (c.From.length : Int) ∧ el c.From f ∈ o ∧ el c.To f ∈ o := by
  unfold fullL
  rw [fil_mem, Bool.and_eq_true, decide_eq_true_iff, decide_eq_true_iff]
theorem fullL_len (c : XCategory) (o : List Int) : ((fullL c o).length : Int) ≤ (c.From.length : Int) := by
  have := fil_length_le (c.From.length : Int) fun f => decide (el c.From f ∈ o) && decide (el c.To f ∈ o)
  unfold fullL
  omega
theorem fullL_nodup (c : XCategory) (o : List Int) : (fullL c o).Nodup := fil_nodup _ _

theorem l02Full_eq {c : XCategory} (h : Shp c) {o : List Int} (so : Small o) : M.spec_l02Full c o = some (fullL c o) := by
  apply Ret.eq
  have m40 := h.m40
  have lto := h.lto
  unfold M.spec_l02Full
  refine fil_loop (n := (c.From.length : Int)) (p := fun f => decide (el c.From f ∈ o) && decide (el c.To f ∈ o)) (by omega) (by omega) ?_ ?_
  · intro i next i0 i1 hs hy hn
    dsimp only
    rw [if_pos (decide_eq_true i1)]
    refine Ret.idx i0 i1 (Ret.call (l01Has_eq so _) (Ret.ite (fun h1 => Ret.idx i0 (by omega) (Ret.call (l01Has_eq so _) (Ret.ite (fun h2 => Ret.chk ?_ (hy ?_)) (fun h2 => hn ?_)))) (fun h1 => hn ?_)))
    · unfold lim; simp only [List.length_cons, List.length_nil]; omega
    · rw [h1, h2]; rfl
    · rw [Bool.eq_false_iff]; intro x; rw [Bool.and_eq_true] at x; exact h2 x.2
    · rw [Bool.eq_false_iff]; intro x; rw [Bool.and_eq_true] at x; exact h1 x.1
  · intro next
    dsimp only
    rw [if_neg (by simp)]
    exact Ret.some rfl
theorem between_eq {c : XCategory} (h : Shp c) {o : List Int} (so : Small o) : M.impl_Category_between c o = some (fullL c o) := l02Full_eq h so

/-- A choice of objects: those that pass. -/
structure Pick (c : XCategory) (o : List Int) : Prop where
  s : Shp c
  e : o = fil c.Objects fun x => decide (x ∈ o)
theorem Pick.nodup {c : XCategory} {o : List Int} (h : Pick c o) : o.Nodup := by rw [h.e]; exact fil_nodup _ _
theorem Pick.len {c : XCategory} {o : List Int} (h : Pick c o) : (o.length : Int) ≤ c.Objects := by
  have h1 := fil_length_le c.Objects fun x => decide (x ∈ o)
  have n0 := h.s.n0
  have := congrArg List.length h.e
  omega
theorem Pick.inn {c : XCategory} {o : List Int} (h : Pick c o) {x : Int} (hx : x ∈ o) : 0 ≤ x ∧ x < c.Objects := by
  rw [h.e] at hx
  have := fil_mem.1 hx
  exact ⟨this.1, this.2.1⟩
theorem Pick.id {c : XCategory} {o : List Int} (h : Pick c o) {x : Int} (x0 : 0 ≤ x) (x1 : x < c.Objects) : el c.Identity x ∈ fullL c o ↔ x ∈ o := by
  have i := h.s.id_in x x0 x1
  rw [fullL_mem, h.s.id_from x x0 x1, h.s.id_to x x0 x1]
  exact ⟨fun y => y.2.2.1, fun y => ⟨i.1, i.2, y, y⟩⟩
theorem Pick.objs {c : XCategory} {o : List Int} (h : Pick c o) : (fil c.Objects fun x => decide (el c.Identity x ∈ fullL c o)) = o := by
  conv => rhs; rw [h.e]
  apply fil_congr
  intro x x0 x1
  rw [decide_eq_decide]
  exact h.id x0 x1

noncomputable def subC (c : XCategory) (o : List Int) : XCategory :=
  ⟨(o.length : Int), (fullL c o).map fun f => indexL o (el c.From f), (fullL c o).map fun f => indexL o (el c.To f), o.map fun x => indexL (fullL c o) (el c.Identity x),
    (fullL c o).map fun f => (fullL c o).map fun g => indexL (fullL c o) (cmp c f g)⟩

theorem el_map {α β : Type} [Inhabited α] [Inhabited β] {l : List α} {F : α → β} {i : Int} (i0 : 0 ≤ i) (i1 : i < (l.length : Int)) : el (l.map F) i = F (el l i) := by
  have e1 : idx (l.map F) i = some (el (l.map F) i) := idx_el i0 (by rw [List.length_map]; exact i1)
  have e2 : idx l i = some (el l i) := idx_el i0 i1
  have h1 := (idx_some e1).2.2
  have h2 := (idx_some e2).2.2
  rw [List.getElem?_map, h2] at h1
  exact (Option.some.inj h1).symm

theorem Pick.comp {c : XCategory} {o : List Int} (h : Pick c o) {f g : Int} (hf : f ∈ fullL c o) (hg : g ∈ fullL c o) (e : el c.To f = el c.From g) : cmp c f g ∈ fullL c o := by
  have mf := fullL_mem.1 hf
  have mg := fullL_mem.1 hg
  have y := h.s.yes f g mf.1 mf.2.1 mg.1 mg.2.1 e
  rw [fullL_mem, h.s.cfrom f g mf.1 mf.2.1 mg.1 mg.2.1 e, h.s.cto f g mf.1 mf.2.1 mg.1 mg.2.1 e]
  exact ⟨y.1, y.2, mf.2.2.1, mg.2.2.2⟩

theorem subC_shp {c : XCategory} {o : List Int} (h : Pick c o) : Shp (subC c o) := by
  have n8 := h.s.n8
  have m40 := h.s.m40
  have lo := h.len
  have la := fullL_len c o
  have so : Small o := by unfold Small; omega
  have sa : Small (fullL c o) := by unfold Small; omega
  have no := h.nodup
  have na := fullL_nodup c o
  have lF : ((subC c o).From.length : Int) = ((fullL c o).length : Int) := by show (((fullL c o).map _).length : Int) = _; rw [List.length_map]
  have mem : ∀ i, 0 ≤ i → i < ((subC c o).From.length : Int) → el (fullL c o) i ∈ fullL c o := fun i i0 i1 => el_mem i0 (by omega)
  have eF : ∀ i, 0 ≤ i → i < ((subC c o).From.length : Int) → el (subC c o).From i = indexL o (el c.From (el (fullL c o) i)) := fun i i0 i1 => el_map i0 (by omega)
  have eT : ∀ i, 0 ≤ i → i < ((subC c o).From.length : Int) → el (subC c o).To i = indexL o (el c.To (el (fullL c o) i)) := fun i i0 i1 => el_map i0 (by omega)
  have eI : ∀ x, 0 ≤ x → x < (subC c o).Objects → el (subC c o).Identity x = indexL (fullL c o) (el c.Identity (el o x)) := fun x x0 x1 => el_map x0 x1
  have eC : ∀ i j, 0 ≤ i → i < ((subC c o).From.length : Int) → 0 ≤ j → j < ((subC c o).From.length : Int) → cmp (subC c o) i j = indexL (fullL c o) (cmp c (el (fullL c o) i) (el (fullL c o) j)) := by
    intro i j i0 i1 j0 j1
    show el (el ((fullL c o).map fun f => (fullL c o).map fun g => indexL (fullL c o) (cmp c f g)) i) j = _
    rw [el_map i0 (by omega), el_map j0 (by omega)]
  have idm : ∀ x, 0 ≤ x → x < (subC c o).Objects → el c.Identity (el o x) ∈ fullL c o := fun x x0 x1 => by
    have mx : el o x ∈ o := el_mem x0 x1
    have := h.inn mx
    exact (h.id this.1 this.2).2 mx
  have meet : ∀ i j, 0 ≤ i → i < ((subC c o).From.length : Int) → 0 ≤ j → j < ((subC c o).From.length : Int) → (el (subC c o).To i = el (subC c o).From j ↔ el c.To (el (fullL c o) i) = el c.From (el (fullL c o) j)) := by
    intro i j i0 i1 j0 j1
    rw [eT i i0 i1, eF j j0 j1]
    constructor
    · intro e
      have a := (indexL_in so no (fullL_mem.1 (mem i i0 i1)).2.2.2).2
      have b := (indexL_in so no (fullL_mem.1 (mem j j0 j1)).2.2.1).2
      rw [← a, ← b, e]
    · intro e; rw [e]
  refine ⟨by show 0 ≤ (o.length : Int); omega, by show (o.length : Int) ≤ 8; omega, by omega, ?_, ?_, ?_, ?_, ?_, ?_, ?_, ?_, ?_, ?_, ?_, ?_, ?_⟩
  · rw [lF]; show (((fullL c o).map _).length : Int) = _; rw [List.length_map]
  · show ((o.map _).length : Int) = _; rw [List.length_map]; rfl
  · rw [lF]; show (((fullL c o).map _).length : Int) = _; rw [List.length_map]
  · intro i i0 i1
    rw [eF i i0 i1]
    exact (indexL_in so no (fullL_mem.1 (mem i i0 i1)).2.2.1).1
  · intro i i0 i1
    rw [eT i i0 i1]
    exact (indexL_in so no (fullL_mem.1 (mem i i0 i1)).2.2.2).1
  · intro x x0 x1
    rw [eI x x0 x1, lF]
    exact (indexL_in sa na (idm x x0 x1)).1
  · intro x x0 x1
    have k := indexL_in sa na (idm x x0 x1)
    have mx : el o x ∈ o := el_mem x0 x1
    have hx := h.inn mx
    rw [eI x x0 x1, eF _ k.1.1 (by omega), k.2, h.s.id_from _ hx.1 hx.2]
    exact indexL_el so no x0 x1
  · intro x x0 x1
    have k := indexL_in sa na (idm x x0 x1)
    have mx : el o x ∈ o := el_mem x0 x1
    have hx := h.inn mx
    rw [eI x x0 x1, eT _ k.1.1 (by omega), k.2, h.s.id_to _ hx.1 hx.2]
    exact indexL_el so no x0 x1
  · intro i i0 i1
    show ((el ((fullL c o).map fun f => (fullL c o).map fun g => indexL (fullL c o) (cmp c f g)) i).length : Int) = _
    rw [el_map i0 (by omega), List.length_map, lF]
  · intro i j i0 i1 j0 j1 hne
    have mi := fullL_mem.1 (mem i i0 i1)
    have mj := fullL_mem.1 (mem j j0 j1)
    rw [eC i j i0 i1 j0 j1, h.s.no _ _ mi.1 mi.2.1 mj.1 mj.2.1 (fun e => hne ((meet i j i0 i1 j0 j1).2 e))]
    exact indexL_no sa fun x => by have := (fullL_mem.1 x).1; omega
  · intro i j i0 i1 j0 j1 e
    have hc := h.comp (mem i i0 i1) (mem j j0 j1) ((meet i j i0 i1 j0 j1).1 e)
    rw [eC i j i0 i1 j0 j1, lF]
    exact (indexL_in sa na hc).1
  · intro i j i0 i1 j0 j1 e
    have e' := (meet i j i0 i1 j0 j1).1 e
    have hc := h.comp (mem i i0 i1) (mem j j0 j1) e'
    have k := indexL_in sa na hc
    have mi := fullL_mem.1 (mem i i0 i1)
    have mj := fullL_mem.1 (mem j j0 j1)
    rw [eC i j i0 i1 j0 j1, eF _ k.1.1 (by omega), k.2, h.s.cfrom _ _ mi.1 mi.2.1 mj.1 mj.2.1 e', eF i i0 i1]
  · intro i j i0 i1 j0 j1 e
    have e' := (meet i j i0 i1 j0 j1).1 e
    have hc := h.comp (mem i i0 i1) (mem j j0 j1) e'
    have k := indexL_in sa na hc
    have mi := fullL_mem.1 (mem i i0 i1)
    have mj := fullL_mem.1 (mem j j0 j1)
    rw [eC i j i0 i1 j0 j1, eT _ k.1.1 (by omega), k.2, h.s.cto _ _ mi.1 mi.2.1 mj.1 mj.2.1 e', eT j j0 j1]
end Go.Gx

/- The law of HomProfunctor. -/
namespace Go.Gx
open Classical
set_option maxHeartbeats 1000000

/-! ### marks on lists of lists of lists -/
def rS (x : List (List Int)) (k : Int) : Int × List (List Int) := (M.laws_markInt64SS x k).getD (0, [])
def ksN (l : List (List (List Int))) (k : Int) : Nat → Int
  | 0 => k
  | i + 1 => (rS (el l (i : Int)) (ksN l k i)).1
def ks (l : List (List (List Int))) (k i : Int) : Int := ksN l k i.toNat
theorem ks_succ {l : List (List (List Int))} {k i : Int} (h : 0 ≤ i) : ks l k (i + 1) = (rS (el l i) (ks l k i)).1 := by
  unfold ks
  rw [show (i + 1).toNat = i.toNat + 1 by omega]
  show (rS (el l (i.toNat : Int)) _).1 = _
  rw [Int.toNat_of_nonneg h]

def SmallR (r : List (List Int)) : Prop := Small r ∧ ∀ q ∈ r, Small q

theorem rS_spec {x : List (List Int)} (h : SmallR x) {k : Int} (h0 : 0 ≤ k) (h1 : k + 1099511627776 ≤ 2305843009213693952) :
    M.laws_markInt64SS x k = some (rS x k) ∧ M.laws_heldInt64SS (rS x k).2 k = some (rS x k).1 ∧ k ≤ (rS x k).1 ∧ (rS x k).1 ≤ k + 1099511627776 := by
  obtain ⟨n, x', a, b, e, f, _⟩ := mh_SS h.1 h.2 k h0 h1
  have er : rS x k = (k + n, x') := by unfold rS; rw [e]; rfl
  rw [er]
  exact ⟨e, f, by dsimp only; omega, by dsimp only; omega⟩

theorem ks_le {l : List (List (List Int))} (hr : ∀ r ∈ l, SmallR r) (hl : (l.length : Int) ≤ 1024) {k : Int} (h0 : 0 ≤ k) (h1 : k + 1125899906842624 ≤ 2305843009213693952) :
    ∀ i : Nat, (i : Int) ≤ (l.length : Int) → k ≤ ks l k (i : Int) ∧ ks l k (i : Int) ≤ k + (i : Int) * 1099511627776
  | 0, _ => by
    have : ks l k ((0 : Nat) : Int) = k := rfl
    rw [this]; omega
  | i + 1, hi => by
    have h2 := ks_le hr hl h0 h1 i (by omega)
    have h3 := rS_spec (hr _ (el_mem (l := l) (i := (i : Int)) (by omega) (by omega))) (k := ks l k (i : Int)) (by omega) (by omega)
    rw [show ((i + 1 : Nat) : Int) = (i : Int) + 1 by omega, ks_succ (by omega)]
    omega
theorem ks_le' {l : List (List (List Int))} (hr : ∀ r ∈ l, SmallR r) (hl : (l.length : Int) ≤ 1024) {k : Int} (h0 : 0 ≤ k) (h1 : k + 1125899906842624 ≤ 2305843009213693952) {i : Int} (i0 : 0 ≤ i) (i1 : i ≤ (l.length : Int)) :
    k ≤ ks l k i ∧ ks l k i ≤ k + i * 1099511627776 := by
  have := ks_le hr hl h0 h1 i.toNat (by omega)
  rwa [Int.toNat_of_nonneg i0] at this

theorem mh_SSS {l : List (List (List Int))} (hl : (l.length : Int) ≤ 1024) (hr : ∀ r ∈ l, SmallR r) : MH 1125899906842624 M.laws_markInt64SSS M.laws_heldInt64SSS (fun _ _ => True) l := by
  intro k h0 h1
  have hb := ks_le' hr hl h0 h1 (i := (l.length : Int)) (by omega) (by omega)
  have e1 : (((l.length : Int).toNat : Nat) : Int) = (l.length : Int) := by omega
  refine ⟨ks l k (l.length : Int) - k, tab (l.length : Int) fun j => (rS (el l j) (ks l k j)).2, by omega, by omega, ?_, ?_, trivial⟩
  · rw [show k + (ks l k (l.length : Int) - k) = ks l k (l.length : Int) by omega]
    apply Ret.eq
    unfold M.laws_markInt64SSS
    refine Ret.loop (l.length : Int) (fun i s => s = (tab (l.length : Int) fun j => if j < i then (rS (el l j) (ks l k j)).2 else el l j, ks l k i, i)) (by omega) (by omega) ?_ ?_ ?_
    · refine Prod.ext ?_ rfl
      conv => lhs; rw [← tab_el l]
      dsimp only; apply tab_congr; intro j j0 j1; rw [if_neg (by omega)]
    · rintro i s next i0 i1 rfl hn
      dsimp only
      simp only [decide_eq_true_eq, tab_length, e1]
      rw [if_pos i1]
      have hk := ks_le' hr hl h0 h1 i0 (by omega)
      obtain ⟨q1, q2, q3, q4⟩ := rS_spec (hr _ (el_mem i0 i1)) (k := ks l k i) (by omega) (by omega)
      refine Ret.idx i0 (by rw [tab_length]; omega) ?_
      rw [el_tab i0 i1, if_neg (by omega)]
      refine Ret.call q1 (hn _ ?_)
      rw [set_tab i0, wrap_in (by omega) (by omega), ← ks_succ i0]
      refine Prod.ext ?_ rfl
      dsimp only; apply tab_congr; intro j j0 j1
      by_cases hj : j = i
      · subst hj; rw [if_pos rfl, if_pos (show j < j + 1 by omega)]
      · rw [if_neg hj]
        by_cases hlt : j < i
        · rw [if_pos hlt, if_pos (show j < i + 1 by omega)]
        · rw [if_neg hlt, if_neg (show ¬ j < i + 1 by omega)]
    · rintro s next rfl
      dsimp only
      simp only [decide_eq_true_eq, tab_length, e1]
      rw [if_neg (by omega)]
      refine Ret.some (Prod.ext rfl ?_)
      dsimp only; apply tab_congr; intro j j0 j1; rw [if_pos j1]
  · rw [show k + (ks l k (l.length : Int) - k) = ks l k (l.length : Int) by omega]
    apply Ret.eq
    unfold M.laws_heldInt64SSS
    refine Ret.loop (l.length : Int) (fun i s => s = (ks l k i, i)) (by omega) (by omega) rfl ?_ ?_
    · rintro i s next i0 i1 rfl hn
      dsimp only
      simp only [decide_eq_true_eq, tab_length, e1]
      rw [if_pos i1]
      have hk := ks_le' hr hl h0 h1 i0 (by omega)
      obtain ⟨q1, q2, q3, q4⟩ := rS_spec (hr _ (el_mem i0 i1)) (k := ks l k i) (by omega) (by omega)
      refine Ret.idx i0 (by rw [tab_length]; omega) ?_
      rw [el_tab i0 i1]
      refine Ret.call q2 ?_
      rw [if_neg (by omega)]
      refine hn _ ?_
      rw [wrap_in (by omega) (by omega), ← ks_succ i0]
    · rintro s next rfl
      dsimp only
      simp only [decide_eq_true_eq, tab_length, e1]
      rw [if_neg (by omega)]
      exact Ret.some rfl

theorem eqInt64SSS_refl {l : List (List (List Int))} (h : Small l) (hr : ∀ r ∈ l, SmallR r) : M.laws_eqInt64SSS l l = some true := by
  apply Ret.eq
  unfold M.laws_eqInt64SSS
  simp only [bne_self_eq_false, Bool.false_eq_true, if_false, decide_eq_true_eq]
  refine Ret.all (l.length : Int) (fun _ => True) (by omega) (by omega) ?_ ?_
  · intro i next hi0 hi1 hp hn1
    have hx := hr _ (el_mem hi0 hi1)
    rw [if_pos hi1]
    exact Ret.idx hi0 hi1 (Ret.idx hi0 hi1 (Ret.call (eqInt64SS_refl hx.1 hx.2) (hn1 trivial)))
  · intro next hp
    rw [if_neg (by omega)]
    exact Ret.some rfl

structure SmallP (p : XProfunctor) : Prop where
  s1 : SmallC p.Source
  s2 : SmallC p.Target
  s3 : SmallR p.Sizes
  l4 : (p.Before.length : Int) ≤ 1024
  s4 : ∀ r ∈ p.Before, SmallR r
  l5 : (p.Behind.length : Int) ≤ 1024
  s5 : ∀ r ∈ p.Behind, SmallR r

theorem eqProfunctor_refl {p : XProfunctor} (h : SmallP p) : M.laws_eqProfunctor p p = some true := by
  have l4 := h.l4
  have l5 := h.l5
  unfold M.laws_eqProfunctor
  rw [eqCategory_refl h.s1, eqCategory_refl h.s2, eqInt64SS_refl h.s3.1 h.s3.2, eqInt64SSS_refl (by unfold Small; omega) h.s4, eqInt64SSS_refl (by unfold Small; omega) h.s5]; simp

theorem mh_P {p : XProfunctor} (h : SmallP p) : MH 2255098354860032 M.laws_markProfunctor M.laws_heldProfunctor (fun _ _ => True) p := by
  intro k h0 h1
  obtain ⟨n1, l1, a1, b1, e1, f1, g1⟩ := mh_C h.s1 k h0 (by omega)
  obtain ⟨n2, l2, a2, b2, e2, f2, g2⟩ := mh_C h.s2 (k + n1) (by omega) (by omega)
  obtain ⟨n3, l3, a3, b3, e3, f3, _⟩ := mh_SS h.s3.1 h.s3.2 (k + n1 + n2) (by omega) (by omega)
  obtain ⟨n4, l4, a4, b4, e4, f4, _⟩ := mh_SSS h.l4 h.s4 (k + n1 + n2 + n3) (by omega) (by omega)
  obtain ⟨n5, l5, a5, b5, e5, f5, _⟩ := mh_SSS h.l5 h.s5 (k + n1 + n2 + n3 + n4) (by omega) (by omega)
  refine ⟨n1 + n2 + n3 + n4 + n5, ⟨l1, l2, l3, l4, l5⟩, by omega, by omega, ?_, ?_, trivial⟩
  · unfold M.laws_markProfunctor
    simp only [e1, e2, e3, e4, e5, Option.bind_some, Option.some.injEq, Prod.mk.injEq]
    refine ⟨by omega, ?_⟩
    rw [← g1, ← g2]
  · unfold M.laws_heldProfunctor
    simp only [f1, f2, f3, f4, f5, Option.bind_some, decide_eq_true_eq]
    rw [if_neg (by omega), if_neg (by omega), if_neg (by omega), if_neg (by omega), if_neg (by omega)]
    simp only [Option.some.injEq]; omega

/-! ### the identity -/
theorem natP_small {f g : XFunctor} (ss : SmallC f.Source) (sg : SmallC g.Source) (h : Two f g) : SmallP (natP f g) := by
  have f0 := h.sf.n0
  have f8 := h.sf.n8
  have g0 := h.sg.n0
  have g8 := h.sg.n8
  have fm := h.sf.m40
  have gm := h.sg.m40
  have big : ∀ {α : Type} {n : Int} (F : Int → α), n ≤ 1024 → ((tab n F).length : Int) ≤ 1024 := fun F hn => by rw [tab_length]; omega
  have sm : ∀ {α : Type} {n : Int} (F : Int → α), n ≤ 1024 → Small (tab n F) := fun F hn => by unfold Small; rw [tab_length]; omega
  have hb : ∀ x y, Small (befL f g x y) := fun x y => by
    have h40 : ((atL f g (el f.Source.To x) y).length : Int) ≤ 40 := homL_len h.st _ _
    unfold befL Small; rw [List.length_map]; omega
  have hh : ∀ x y, Small (behL f g x y) := fun x y => by
    have h40 : ((atL f g y (el g.Source.From x)).length : Int) ≤ 40 := homL_len h.st _ _
    unfold behL Small; rw [List.length_map]; omega
  have rows : ∀ {α : Type} {n m : Int} [Inhabited α] {F : Int → Int → List α}, (∀ x y, Small (F x y)) → m ≤ 1024 → ∀ r ∈ (tab n fun a => tab m fun y => F a y), Small r ∧ ∀ q ∈ r, Small q := by
    intro α n m _ F hF hm r hr
    obtain ⟨i, i0, i1, rfl⟩ := mem_el hr
    rw [tab_length] at i1
    rw [el_tab i0 (by omega)]
    refine ⟨sm _ hm, fun q hq => ?_⟩
    obtain ⟨j, j0, j1, rfl⟩ := mem_el hq
    rw [tab_length] at j1
    rw [el_tab j0 (by omega)]
    exact hF _ _
  have q3 : (natP f g).Sizes = tab f.Source.Objects fun x => tab g.Source.Objects fun y => ((atL f g x y).length : Int) := rfl
  have q4 : (natP f g).Before = tab (f.Source.From.length : Int) fun a => tab g.Source.Objects fun y => befL f g a y := rfl
  have q5 : (natP f g).Behind = tab (g.Source.From.length : Int) fun b => tab f.Source.Objects fun x => behL f g b x := rfl
  refine ⟨ss, sg, ⟨by rw [q3]; exact sm _ (by omega), fun q hq => ?_⟩, by rw [q4]; exact big _ (by omega), by rw [q4]; exact rows hb (by omega), by rw [q5]; exact big _ (by omega), by rw [q5]; exact rows hh (by omega)⟩
  rw [q3] at hq
  obtain ⟨j, j0, j1, rfl⟩ := mem_el hq
  rw [tab_length] at j1
  rw [el_tab j0 (by omega)]
  exact sm _ (by omega)

def zeroP : XProfunctor := ⟨⟨0, [], [], [], []⟩, ⟨0, [], [], [], []⟩, [], [], []⟩
theorem zeroP_small : SmallP zeroP := ⟨zeroC_small, zeroC_small, ⟨by simp [zeroP], by simp [zeroP]⟩, by simp [zeroP], by simp [zeroP], by simp [zeroP], by simp [zeroP]⟩

end Go.Gx

/- Plain laws: set functors. -/
namespace Go.Gx
open Classical
set_option maxHeartbeats 4000000

structure SmallG (F : XSetFunctor) : Prop where
  s1 : SmallC F.Shape
  s2 : Small F.Sizes
  s3 : Small F.Actions
  s4 : ∀ r ∈ F.Actions, Small r
structure FitsG (F : XSetFunctor) : Prop where
  f1 : FitsC F.Shape
  f2 : Fits F.Sizes
  f3 : Fits F.Actions
  f4 : ∀ r ∈ F.Actions, Fits r
/-! ### which are set functors -/
def ActOk (F : XSetFunctor) (a : Int) : Prop := ((el F.Actions a).length : Int) = el F.Sizes (el F.Shape.From a) ∧ In (el F.Sizes (el F.Shape.To a)) (el F.Actions a)
structure ShpG (F : XSetFunctor) : Prop where
  cat : IsCat F.Shape
  ls : (F.Sizes.length : Int) = F.Shape.Objects
  la : (F.Actions.length : Int) = (F.Shape.From.length : Int)
  siz : ∀ i, 0 ≤ i → i < (F.Sizes.length : Int) → 0 ≤ el F.Sizes i ∧ el F.Sizes i ≤ 16
  act : ∀ a, 0 ≤ a → a < (F.Actions.length : Int) → ActOk F a

/-- The image of e under the action of a. -/
abbrev act (F : XSetFunctor) (a e : Int) : Int := el (el F.Actions a) e
def UnitG (F : XSetFunctor) : Prop := ∀ x, 0 ≤ x → x < F.Shape.Objects → ∀ e, 0 ≤ e → e < el F.Sizes x → act F (el F.Shape.Identity x) e = e
def CompG (F : XSetFunctor) : Prop := ∀ f, 0 ≤ f → f < (F.Shape.From.length : Int) → ∀ g, 0 ≤ g → g < (F.Shape.From.length : Int) → el F.Shape.To f = el F.Shape.From g →
  ∀ e, 0 ≤ e → e < el F.Sizes (el F.Shape.From f) → act F (cmp F.Shape f g) e = act F g (act F f e)

def IsSet (F : XSetFunctor) : Prop := ShpG F ∧ UnitG F ∧ CompG F

end Go.Gx

/- The law of SumSets. -/
namespace Go.Gx
open Classical
set_option maxHeartbeats 2000000

def upTo (n : Int) : List Int := tab n fun j => j
def shifts (l : List Int) (b : Int) : List Int := tab (l.length : Int) fun j => el l j + b
/-- Two set functors on one shape. -/
structure TwoG (F G : XSetFunctor) : Prop where
  f : IsSet F
  g : IsSet G
  e : F.Shape = G.Shape

theorem shifted_eq {l : List Int} {b : Int} (hl : Small l) (h0 : 0 ≤ b) (h1 : b ≤ 1048576) (hr : ∀ i, 0 ≤ i → i < (l.length : Int) → 0 ≤ el l i ∧ el l i ≤ 1048576) : M.impl_shifted l b = some (shifts l b) := by
  apply Ret.eq
  unfold M.impl_shifted
  refine push_loop (n := (l.length : Int)) (F := fun j => el l j + b) (by omega) (by omega) ?_ ?_
  · intro i next i0 i1 hl hn
    have x := hr i i0 i1
    dsimp only
    rw [if_pos (decide_eq_true i1)]
    refine Ret.idx i0 i1 ?_
    rw [wrap_in (x := el l i + b) (by omega) (by omega)]
    exact Ret.chk (by unfold lim; simp only [List.length_cons, List.length_nil]; omega) hn
  · intro next
    dsimp only
    rw [if_neg (by simp)]
    exact Ret.some rfl

/-- What the indices need. -/
theorem TwoG.sz {F G : XSetFunctor} (h : TwoG F G) {x : Int} (x0 : 0 ≤ x) (x1 : x < (F.Sizes.length : Int)) :
    x < (G.Sizes.length : Int) ∧ (0 ≤ el F.Sizes x ∧ el F.Sizes x ≤ 16) ∧ (0 ≤ el G.Sizes x ∧ el G.Sizes x ≤ 16) := by
  have l1 := h.f.1.ls
  have l2 := h.g.1.ls
  rw [← h.e] at l2
  exact ⟨by omega, h.f.1.siz x x0 x1, h.g.1.siz x x0 (by omega)⟩
theorem TwoG.ac {F G : XSetFunctor} (h : TwoG F G) {a : Int} (a0 : 0 ≤ a) (a1 : a < (F.Actions.length : Int)) :
    a < (G.Actions.length : Int) ∧ a < (F.Shape.To.length : Int) ∧ (0 ≤ el F.Shape.To a ∧ el F.Shape.To a < (F.Sizes.length : Int)) ∧ ((el F.Actions a).length : Int) ≤ 16 ∧ ((el G.Actions a).length : Int) ≤ 16 ∧
    ∀ i, 0 ≤ i → i < ((el G.Actions a).length : Int) → 0 ≤ el (el G.Actions a) i ∧ el (el G.Actions a) i ≤ 1048576 := by
  have l1 := h.f.1.la
  have l2 := h.g.1.la
  have l3 := h.f.1.ls
  have l4 := h.g.1.ls
  have e := h.e
  rw [← e] at l2 l4
  have hc := h.f.1.cat.1.shp
  have lt := hc.lto
  have t := hc.to_in a a0 (by omega)
  have s := hc.from_in a a0 (by omega)
  have f1 := (h.f.1.act a a0 a1).1
  have g1 := (h.g.1.act a a0 (by omega)).1
  have g2 := (h.g.1.act a a0 (by omega)).2
  rw [← e] at g1 g2
  have z1 := h.f.1.siz _ s.1 (by omega)
  have z2 := h.g.1.siz _ s.1 (by omega)
  have z3 := h.g.1.siz _ t.1 (by omega)
  refine ⟨by omega, by omega, ⟨t.1, by omega⟩, by omega, by omega, fun i i0 i1 => ?_⟩
  have := g2 i i0 i1
  omega

theorem upTo_len {n : Int} (h : 0 ≤ n) : ((upTo n).length : Int) = n := tab_len' _ _ h
theorem upTo_in {n : Int} (h : n ≤ 1048576) : ∀ i, 0 ≤ i → i < ((upTo n).length : Int) → 0 ≤ el (upTo n) i ∧ el (upTo n) i ≤ 1048576 := by
  intro i i0 i1
  unfold upTo at *
  rw [tab_length] at i1
  rw [el_tab i0 (by omega)]; omega

end Go.Gx

/- Plain laws: profunctors with a limit; loops that lay lists one behind the other. -/
namespace Go.Gx
open Classical
set_option maxHeartbeats 1000000

/-! ### lists one behind the other -/
def cat (n : Int) (H : Int → List Int) : List Int := (tab n H).flatten
end Go.Gx

/- The law of ProfunctorOfCollage. -/
namespace Go.Gx
open Classical
set_option maxHeartbeats 1000000

theorem l02Part_eq {c : XCategory} {o : List Int} (h : Pick c o) : M.spec_l02Part c (fullL c o) = some (subC c o) := by
  apply Ret.eq
  have n0 := h.s.n0
  have n8 := h.s.n8
  have m40 := h.s.m40
  have lid := h.s.lid
  have lto := h.s.lto
  have lco := h.s.lco
  have lo := h.len
  have la := fullL_len c o
  have so : Small o := by unfold Small; omega
  have sa : Small (fullL c o) := by unfold Small; omega
  unfold M.spec_l02Part
  refine fil_loop (n := c.Objects) (p := fun x => decide (el c.Identity x ∈ fullL c o)) n0 (by omega) ?_ ?_
  · intro x next x0 x1 hs hy hn
    dsimp only
    rw [if_pos (decide_eq_true x1)]
    refine Ret.idx x0 (by omega) (Ret.call (l01Has_eq sa _) (Ret.ite (fun h1 => Ret.chk ?_ (hy h1)) (fun h1 => hn (Bool.eq_false_iff.2 h1))))
    unfold lim; simp only [List.length_cons, List.length_nil]; omega
  intro next
  dsimp only
  rw [if_neg (by simp), h.objs]
  refine map_loop (l := o) (F := fun x => indexL (fullL c o) (el c.Identity x)) so ?_ ?_
  · intro i s next i0 i1 hs hn
    have hx := h.inn (el_mem i0 i1)
    dsimp only
    rw [if_pos (decide_eq_true i1)]
    refine Ret.idx i0 i1 (Ret.idx hx.1 (by omega) (Ret.call (l01Index_eq sa _) (Ret.chk ?_ hn)))
    unfold lim; simp only [List.length_cons, List.length_nil]; omega
  intro next
  dsimp only
  rw [if_neg (by simp)]
  refine Ret.loop ((fullL c o).length : Int) (fun i s => s = (((fullL c o).take i.toNat).map (fun f => indexL o (el c.From f)), ((fullL c o).take i.toNat).map (fun f => indexL o (el c.To f)),
      ((fullL c o).take i.toNat).map (fun f => (fullL c o).map fun g => indexL (fullL c o) (cmp c f g)), i)) (by omega) (by omega) rfl ?_ ?_
  · rintro i s next i0 i1 rfl hn
    have mf := fullL_mem.1 (el_mem i0 i1)
    have rf := h.s.row _ mf.1 mf.2.1
    dsimp only
    rw [if_pos (decide_eq_true i1)]
    have l1 : ∀ {α : Type} (F : Int → α), ((((fullL c o).take i.toNat).map F).length : Int) ≤ 40 := fun F => by rw [List.length_map, List.length_take]; omega
    have l2 := l1 fun f => indexL o (el c.From f)
    have l3 := l1 fun f => indexL o (el c.To f)
    have l4 := l1 fun f => (fullL c o).map fun g => indexL (fullL c o) (cmp c f g)
    refine Ret.idx i0 i1 (Ret.idx mf.1 mf.2.1 (Ret.call (l01Index_eq so _) (Ret.chk (by unfold lim; simp only [List.length_cons, List.length_nil]; omega) ?_)))
    refine Ret.idx mf.1 (by omega) (Ret.call (l01Index_eq so _) (Ret.chk (by unfold lim; simp only [List.length_cons, List.length_nil]; omega) ?_))
    refine map_loop (l := fullL c o) (F := fun g => indexL (fullL c o) (cmp c (el (fullL c o) i) g)) sa ?_ ?_
    · intro j s next j0 j1 hs hn2
      have mg := fullL_mem.1 (el_mem j0 j1)
      dsimp only
      rw [if_pos (decide_eq_true j1)]
      refine Ret.idx mf.1 (by omega) (Ret.idx j0 j1 (Ret.idx mg.1 (by omega) (Ret.call (l01Index_eq sa _) (Ret.chk ?_ hn2))))
      unfold lim; simp only [List.length_cons, List.length_nil]; omega
    · intro next
      dsimp only
      rw [if_neg (by simp)]
      refine Ret.chk (by unfold lim; omega) (hn _ ?_)
      rw [take_succ_el i0 i1, List.map_append, List.map_append, List.map_append, wrap_in (by omega) (by omega)]; rfl
  · rintro s next rfl
    dsimp only
    rw [if_neg (by simp), show ((fullL c o).length : Int).toNat = (fullL c o).length by omega, List.take_length]
    exact Ret.some rfl

/-- The places of the arrows that have been numbered. -/
noncomputable def numA (m : Int) (a : List Int) (i : Int) : List Int := tab m fun f => if f ∈ a.take i.toNat then indexL a f else 0
theorem numA_len {m : Int} (m0 : 0 ≤ m) (a : List Int) (i : Int) : ((numA m a i).length : Int) = m := tab_len' _ _ m0
theorem numA_at {m : Int} {a : List Int} {f : Int} (f0 : 0 ≤ f) (f1 : f < m) (hf : f ∈ a) : el (numA m a (a.length : Int)) f = indexL a f := by
  unfold numA
  rw [el_tab f0 f1, show ((a.length : Int)).toNat = a.length by omega, List.take_length, if_pos hf]
noncomputable def mrkA (m : Int) (a : List Int) (i : Int) : List Bool := tab m fun f => decide (f ∈ a.take i.toNat)

theorem mem_take_succ {a : List Int} {i f : Int} (i0 : 0 ≤ i) (i1 : i < (a.length : Int)) : f ∈ a.take (i + 1).toNat ↔ f ∈ a.take i.toNat ∨ f = el a i := by
  rw [take_succ_el i0 i1, List.mem_append]
  simp

theorem marks_eq {c : XCategory} (h : Shp c) {a : List Int} (sa : Small a) (ha : In (c.From.length : Int) a) : M.impl_Category_marks c a = some (mrkA (c.From.length : Int) a (a.length : Int)) := by
  apply Ret.eq
  have m40 := h.m40
  unfold M.impl_Category_marks M.impl_Category_arrows
  simp only [Option.bind_some]
  refine Ret.chk ⟨by omega, by unfold lim; omega⟩ ?_
  refine Ret.acc (a.length : Int) (fun i s => s = mrkA (c.From.length : Int) a i) (by omega) (by omega) ?_ ?_ ?_
  · rw [rep_tab]
    unfold mrkA
    apply tab_congr
    intro f f0 f1
    simp
  · rintro i s next i0 i1 rfl hn
    have hx := ha i i0 i1
    have hl : ((mrkA (c.From.length : Int) a i).length : Int) = (c.From.length : Int) := tab_len' _ _ (by omega)
    dsimp only
    rw [if_pos (decide_eq_true i1)]
    refine Ret.idx i0 i1 (Ret.idx hx.1 (by omega) (hn _ ?_))
    unfold mrkA
    rw [set_tab hx.1]
    apply tab_congr
    intro f f0 f1
    by_cases hf : f = el a i
    · rw [if_pos hf, decide_eq_true ((mem_take_succ i0 i1).2 (Or.inr hf))]
    · rw [if_neg hf, decide_eq_decide, mem_take_succ i0 i1]
      exact ⟨Or.inl, fun x => x.resolve_right hf⟩
  · rintro s next rfl
    dsimp only
    rw [if_neg (by simp)]
    exact Ret.some rfl

theorem sub_eq {c : XCategory} {o : List Int} (h : Pick c o) : M.impl_Category_sub c (fullL c o) = some (subC c o, o) := by
  apply Ret.eq
  have n0 := h.s.n0
  have n8 := h.s.n8
  have m40 := h.s.m40
  have lid := h.s.lid
  have lto := h.s.lto
  have lco := h.s.lco
  have lo := h.len
  have la := fullL_len c o
  have so : Small o := by unfold Small; omega
  have sa : Small (fullL c o) := by unfold Small; omega
  have na := fullL_nodup c o
  have ina : In (c.From.length : Int) (fullL c o) := fun i i0 i1 => by
    have := fullL_mem.1 (el_mem i0 i1)
    exact ⟨this.1, this.2.1⟩
  unfold M.impl_Category_sub M.impl_Category_arrows
  simp only [Option.bind_some]
  refine Ret.chk ⟨by omega, by unfold lim; omega⟩ ?_
  refine Ret.acc ((fullL c o).length : Int) (fun i s => s = numA (c.From.length : Int) (fullL c o) i) (by omega) (by omega) ?_ ?_ ?_
  · rw [rep_tab]
    unfold numA
    apply tab_congr
    intro f f0 f1
    simp
  · rintro i s next i0 i1 rfl hn
    have hx := ina i i0 i1
    have hl := numA_len (m := (c.From.length : Int)) (by omega) (fullL c o) i
    dsimp only
    rw [if_pos (decide_eq_true i1)]
    refine Ret.idx i0 i1 (Ret.idx hx.1 (by omega) (hn _ ?_))
    unfold numA
    rw [set_tab hx.1]
    apply tab_congr
    intro f f0 f1
    by_cases hf : f = el (fullL c o) i
    · rw [if_pos hf, if_pos ((mem_take_succ i0 i1).2 (Or.inr hf)), hf, indexL_el sa na i0 i1]
    · rw [if_neg hf]
      by_cases hm : f ∈ (fullL c o).take i.toNat
      · rw [if_pos hm, if_pos ((mem_take_succ i0 i1).2 (Or.inl hm))]
      · rw [if_neg hm, if_neg (fun x => hm (((mem_take_succ i0 i1).1 x).resolve_right hf))]
  rintro s next rfl
  dsimp only
  rw [if_neg (by simp)]
  have hnl := numA_len (m := (c.From.length : Int)) (by omega) (fullL c o) ((fullL c o).length : Int)
  have hml : ((mrkA (c.From.length : Int) (fullL c o) ((fullL c o).length : Int)).length : Int) = (c.From.length : Int) := tab_len' _ _ (by omega)
  have hmk : ∀ f, 0 ≤ f → f < (c.From.length : Int) → el (mrkA (c.From.length : Int) (fullL c o) ((fullL c o).length : Int)) f = decide (f ∈ fullL c o) := fun f f0 f1 => by
    unfold mrkA
    rw [el_tab f0 f1, show (((fullL c o).length : Int)).toNat = (fullL c o).length by omega, List.take_length]
  refine Ret.call (marks_eq h.s sa ina) (Ret.chk ⟨by omega, by unfold lim; omega⟩ ?_)
  refine Ret.loop (c.Identity.length : Int) (fun x s => s = (fil x (fun x => decide (el c.Identity x ∈ fullL c o)), tab c.Objects (fun y => if y < x ∧ el c.Identity y ∈ fullL c o then indexL o y else 0),
      (fil x (fun x => decide (el c.Identity x ∈ fullL c o))).map (fun x => indexL (fullL c o) (el c.Identity x)), x)) (by omega) (by omega) ?_ ?_ ?_
  · refine Prod.ext rfl (Prod.ext ?_ rfl)
    dsimp only
    rw [rep_tab]
    apply tab_congr
    intro y y0 y1
    rw [if_neg (fun x => by omega)]
  · rintro x s next x0 x1 rfl hn
    have i := h.s.id_in x x0 (by omega)
    have hle := fil_length_le x fun x => decide (el c.Identity x ∈ fullL c o)
    have hle2 : (((fil x fun x => decide (el c.Identity x ∈ fullL c o)).map fun x => indexL (fullL c o) (el c.Identity x)).length : Int) ≤ x := by rw [List.length_map]; omega
    have lp : ((tab c.Objects fun y => if y < x ∧ el c.Identity y ∈ fullL c o then indexL o y else 0).length : Int) = c.Objects := tab_len' _ _ n0
    dsimp only
    rw [if_pos (decide_eq_true x1)]
    refine Ret.idx x0 (by omega) (Ret.idx i.1 (by omega) ?_)
    rw [hmk _ i.1 i.2]
    refine Ret.ite (fun hb => ?_) (fun hb => hn _ ?_)
    · have hm := of_decide_eq_true hb
      refine Ret.idx x0 (by omega) (Ret.chk (by unfold lim; simp only [List.length_cons, List.length_nil]; omega) (Ret.idx i.1 (by omega) (Ret.chk (by unfold lim; simp only [List.length_cons, List.length_nil]; omega) (hn _ ?_))))
      rw [numA_at i.1 i.2 hm, fil_succ _ x0, hb, wrap_in (by omega) (by omega)]
      have hpl := fil_place (n := c.Objects) (fun x => decide (el c.Identity x ∈ fullL c o)) x0 (by omega) hb (by omega)
      rw [h.objs] at hpl
      refine Prod.ext rfl (Prod.ext ?_ (Prod.ext ?_ rfl))
      · dsimp only
        rw [set_tab x0, ← hpl]
        apply tab_congr
        intro y y0 y1
        by_cases hy : y = x
        · subst hy; rw [if_pos rfl, if_pos ⟨by omega, hm⟩]
        · rw [if_neg hy]
          by_cases h2 : y < x ∧ el c.Identity y ∈ fullL c o
          · rw [if_pos h2, if_pos ⟨by omega, h2.2⟩]
          · rw [if_neg h2, if_neg (fun z => h2 ⟨by omega, z.2⟩)]
      · dsimp only
        simp
    · have hm : el c.Identity x ∉ fullL c o := fun z => hb (decide_eq_true z)
      rw [fil_succ _ x0, if_neg hb, List.append_nil, wrap_in (by omega) (by omega)]
      refine Prod.ext rfl (Prod.ext ?_ rfl)
      dsimp only
      apply tab_congr
      intro y y0 y1
      by_cases h2 : y < x ∧ el c.Identity y ∈ fullL c o
      · rw [if_pos h2, if_pos ⟨by omega, h2.2⟩]
      · rw [if_neg h2, if_neg (fun z => h2 ⟨by
          rcases Int.lt_trichotomy y x with q | q | q
          · exact q
          · subst q; exact absurd z.2 hm
          · omega, z.2⟩)]
  rintro s next rfl
  dsimp only
  rw [if_neg (by simp), lid, h.objs]
  have lp : ((tab c.Objects fun y => if y < c.Objects ∧ el c.Identity y ∈ fullL c o then indexL o y else 0).length : Int) = c.Objects := tab_len' _ _ n0
  have ep : ∀ y, y ∈ o → el (tab c.Objects fun y => if y < c.Objects ∧ el c.Identity y ∈ fullL c o then indexL o y else 0) y = indexL o y := fun y hy => by
    have b := h.inn hy
    rw [el_tab b.1 b.2, if_pos ⟨b.2, (h.id b.1 b.2).2 hy⟩]
  refine Ret.loop ((fullL c o).length : Int) (fun i s => s = (((fullL c o).take i.toNat).map (fun f => indexL o (el c.From f)), ((fullL c o).take i.toNat).map (fun f => indexL o (el c.To f)),
      ((fullL c o).take i.toNat).map (fun f => (fullL c o).map fun g => indexL (fullL c o) (cmp c f g)), i)) (by omega) (by omega) rfl ?_ ?_
  · rintro i s next i0 i1 rfl hn
    have hf : el (fullL c o) i ∈ fullL c o := el_mem i0 i1
    have mf := fullL_mem.1 hf
    have rf := h.s.row _ mf.1 mf.2.1
    have bf := h.inn mf.2.2.1
    have bt := h.inn mf.2.2.2
    dsimp only
    rw [if_pos (decide_eq_true i1)]
    have l1 : ∀ {α : Type} (F : Int → α), ((((fullL c o).take i.toNat).map F).length : Int) ≤ 40 := fun F => by rw [List.length_map, List.length_take]; omega
    have l2 := l1 fun f => indexL o (el c.From f)
    have l3 := l1 fun f => indexL o (el c.To f)
    have l4 := l1 fun f => (fullL c o).map fun g => indexL (fullL c o) (cmp c f g)
    refine Ret.idx i0 i1 (Ret.idx mf.1 mf.2.1 (Ret.idx bf.1 (by omega) ?_))
    rw [ep _ mf.2.2.1]
    refine Ret.chk (by unfold lim; simp only [List.length_cons, List.length_nil]; omega) (Ret.idx mf.1 (by omega) (Ret.idx bt.1 (by omega) ?_))
    rw [ep _ mf.2.2.2]
    refine Ret.chk (by unfold lim; simp only [List.length_cons, List.length_nil]; omega) ?_
    refine map_loop (l := fullL c o) (F := fun g => indexL (fullL c o) (cmp c (el (fullL c o) i) g)) sa ?_ ?_
    · intro j s next j0 j1 hs hn2
      have hg : el (fullL c o) j ∈ fullL c o := el_mem j0 j1
      have mg := fullL_mem.1 hg
      dsimp only
      rw [if_pos (decide_eq_true j1)]
      refine Ret.idx j0 j1 (Ret.call (then_eq mf.1 (by omega) mg.1 (by omega)) (Ret.ite (fun hb => ?_) (fun hb => ?_)))
      · have hb := of_decide_eq_true hb
        have he : el c.To (el (fullL c o) i) = el c.From (el (fullL c o) j) := by
          apply Decidable.byContradiction
          intro hne
          have := h.s.no _ _ mf.1 mf.2.1 mg.1 mg.2.1 hne
          omega
        have y := h.s.yes _ _ mf.1 mf.2.1 mg.1 mg.2.1 he
        refine Ret.idx y.1 (by omega) ?_
        rw [numA_at y.1 y.2 (h.comp hf hg he)]
        exact Ret.chk (by unfold lim; simp only [List.length_cons, List.length_nil]; omega) hn2
      · have hb : ¬ cmp c (el (fullL c o) i) (el (fullL c o) j) ≥ 0 := fun x => hb (decide_eq_true x)
        have he : ¬ el c.To (el (fullL c o) i) = el c.From (el (fullL c o) j) := fun e => hb (h.s.yes _ _ mf.1 mf.2.1 mg.1 mg.2.1 e).1
        have e1 := h.s.no _ _ mf.1 mf.2.1 mg.1 mg.2.1 he
        have e2 : indexL (fullL c o) (cmp c (el (fullL c o) i) (el (fullL c o) j)) = cmp c (el (fullL c o) i) (el (fullL c o) j) := by
          rw [e1]
          exact indexL_no sa fun x => by have := (fullL_mem.1 x).1; omega
        rw [e2] at hn2
        exact Ret.chk (by unfold lim; simp only [List.length_cons, List.length_nil]; omega) hn2
    · intro next
      dsimp only
      rw [if_neg (by simp)]
      refine Ret.chk (by unfold lim; omega) (hn _ ?_)
      rw [take_succ_el i0 i1, List.map_append, List.map_append, List.map_append, wrap_in (by omega) (by omega)]; rfl
  · rintro s next rfl
    dsimp only
    rw [if_neg (by simp), show ((fullL c o).length : Int).toNat = (fullL c o).length by omega, List.take_length]
    exact Ret.some rfl

/-! ### the two halves -/
def lowL (n : Int) : List Int := tab n fun j => j
def highL (m n : Int) : List Int := tab (m - n) fun j => n + j
theorem low_mem {n x : Int} : x ∈ lowL n ↔ 0 ≤ x ∧ x < n := by
  unfold lowL tab
  rw [List.mem_map]
  constructor
  · rintro ⟨k, hk, rfl⟩
    rw [List.mem_range] at hk
    show 0 ≤ (k : Int) ∧ (k : Int) < n
    omega
  · intro h
    exact ⟨x.toNat, List.mem_range.2 (by omega), show ((x.toNat : Nat) : Int) = x by omega⟩
theorem high_mem {m n x : Int} : x ∈ highL m n ↔ n ≤ x ∧ x < m := by
  unfold highL tab
  rw [List.mem_map]
  constructor
  · rintro ⟨k, hk, rfl⟩
    rw [List.mem_range] at hk
    show n ≤ n + (k : Int) ∧ n + (k : Int) < m
    omega
  · intro h
    exact ⟨(x - n).toNat, List.mem_range.2 (by omega), show n + (((x - n).toNat : Nat) : Int) = x by omega⟩
theorem fil_low {n : Int} : ∀ k : Nat, fil (k : Int) (fun x => decide (x < n)) = lowL (if (k : Int) < n then (k : Int) else if 0 ≤ n then n else 0)
  | 0 => by
    unfold lowL tab fil
    split
    · rfl
    · split
      · rename_i h1 h2
        rw [show n.toNat = 0 by omega]; rfl
      · rfl
  | k + 1 => by
    rw [show ((k + 1 : Nat) : Int) = (k : Int) + 1 by omega, fil_succ _ (by omega), fil_low k]
    by_cases h : (k : Int) < n
    · rw [if_pos h, if_pos (decide_eq_true h)]
      unfold lowL
      rw [← tab_succ (fun j => j) (by omega)]
      by_cases h2 : (k : Int) + 1 < n
      · rw [if_pos h2]
      · rw [if_neg h2, if_pos (by omega), show n = (k : Int) + 1 by omega]
    · rw [if_neg h, if_neg (fun z => h (of_decide_eq_true z)), List.append_nil, if_neg (show ¬ (k : Int) + 1 < n by omega)]
theorem fil_high {n : Int} (n0 : 0 ≤ n) : ∀ k : Nat, fil (k : Int) (fun x => decide (n ≤ x)) = highL (if (k : Int) < n then n else (k : Int)) n
  | 0 => by
    unfold highL tab fil
    split
    · rw [show (n - n).toNat = 0 by omega]; rfl
    · rw [show (((0 : Nat) : Int) - n).toNat = 0 by omega]; rfl
  | k + 1 => by
    rw [show ((k + 1 : Nat) : Int) = (k : Int) + 1 by omega, fil_succ _ (by omega), fil_high n0 k]
    by_cases h : n ≤ (k : Int)
    · rw [if_neg (by omega), if_pos (decide_eq_true h), if_neg (by omega)]
      unfold highL
      rw [show (k : Int) + 1 - n = ((k : Int) - n) + 1 by omega, tab_succ _ (by omega), show n + ((k : Int) - n) = (k : Int) by omega]
    · rw [if_pos (by omega), if_neg (fun z => h (of_decide_eq_true z)), List.append_nil]
      by_cases h2 : (k : Int) + 1 < n
      · rw [if_pos h2]
      · rw [if_neg h2, show (k : Int) + 1 = n by omega]
theorem low_pick {c : XCategory} (h : Shp c) {n : Int} (n0 : 0 ≤ n) (n1 : n ≤ c.Objects) : Pick c (lowL n) := by
  refine ⟨h, ?_⟩
  have e := fil_low (n := n) c.Objects.toNat
  rw [Int.toNat_of_nonneg h.n0] at e
  have e2 : (if c.Objects < n then c.Objects else if 0 ≤ n then n else 0) = n := by rw [if_neg (by omega), if_pos n0]
  rw [e2] at e
  conv => lhs; rw [← e]
  apply fil_congr
  intro x x0 x1
  rw [decide_eq_decide, low_mem]
  omega
theorem high_pick {c : XCategory} (h : Shp c) {n : Int} (n0 : 0 ≤ n) (n1 : n ≤ c.Objects) : Pick c (highL c.Objects n) := by
  refine ⟨h, ?_⟩
  have e := fil_high n0 c.Objects.toNat
  rw [Int.toNat_of_nonneg h.n0] at e
  rw [if_neg (by omega)] at e
  conv => lhs; rw [← e]
  apply fil_congr
  intro x x0 x1
  rw [decide_eq_decide, high_mem]
  omega

noncomputable def partF (c : XCategory) (o : List Int) : XFunctor := ⟨subC c o, c, o, fullL c o⟩
theorem partF_small {c : XCategory} (sc : SmallC c) {o : List Int} (h : Pick c o) : SmallF (partF c o) := by
  have n8 := h.s.n8
  have m40 := h.s.m40
  have lo := h.len
  have la := fullL_len c o
  exact ⟨(subC_shp h).small, sc, by show (o.length : Int) ≤ _; omega, by show ((fullL c o).length : Int) ≤ _; omega⟩
theorem part_two {c : XCategory} {o o' : List Int} (h : Pick c o) (h' : Pick c o') : Two (partF c o) (partF c o') := by
  have e : ∀ o, ((partF c o).Arrows.length : Int) = ((partF c o).Source.From.length : Int) := fun o => by
    show ((fullL c o).length : Int) = (((fullL c o).map fun f => indexL o (el c.From f)).length : Int)
    rw [List.length_map]
  have ina : ∀ o, In (c.From.length : Int) (fullL c o) := fun o i i0 i1 => by
    have := fullL_mem.1 (el_mem i0 i1)
    exact ⟨this.1, this.2.1⟩
  exact ⟨subC_shp h, subC_shp h', h.s, rfl, e o, rfl, e o', ina o, ina o'⟩

def NoBack (c : XCategory) (n : Int) (m : Int) : Prop := ∀ f, 0 ≤ f → f < m → ¬ (n ≤ el c.From f ∧ el c.To f < n)
theorem high_len {m n : Int} (h : n ≤ m) : ((highL m n).length : Int) = m - n := tab_len' _ _ (by omega)
theorem low_len {n : Int} (h : 0 ≤ n) : ((lowL n).length : Int) = n := tab_len' _ _ h

theorem Collage_spec {c : XCategory} (sc : SmallC c) (hc : IsCat c) {n : Int} (n0 : 0 ≤ n) (n1 : n ≤ c.Objects) :
    M.spec_ProfunctorOfCollage c n = some (if NoBack c n (c.From.length : Int) then (natP (partF c (lowL n)) (partF c (highL c.Objects n)), 0) else (zeroP, 5)) := by
  apply Ret.eq
  have hS := hc.1.shp
  have N0 := hS.n0
  have n8 := hS.n8
  have m40 := hS.m40
  have lto := hS.lto
  unfold M.spec_ProfunctorOfCollage
  refine Ret.call (l02Is_eq sc) ?_
  rw [if_pos (decide_eq_true hc)]
  refine Ret.call (l01In_eq _ _ _) ?_
  rw [if_pos (by rw [Bool.and_eq_true]; exact ⟨decide_eq_true n0, decide_eq_true n1⟩)]
  refine Ret.all (c.From.length : Int) (fun f => ¬ (n ≤ el c.From f ∧ el c.To f < n)) (by omega) (by omega) ?_ ?_
  · intro f next f0 f1 hp hn
    rw [if_pos (decide_eq_true f1)]
    refine Ret.idx f0 f1 (Ret.ite (fun h1 => Ret.idx f0 (by omega) (Ret.ite (fun h2 => Ret.some ?_) (fun h2 => hn fun z => h2 (decide_eq_true z.2)))) (fun h1 => hn fun z => h1 (decide_eq_true z.1)))
    rw [if_neg (fun z => z f f0 f1 ⟨of_decide_eq_true h1, of_decide_eq_true h2⟩)]; rfl
  intro next hb
  rw [if_neg (by simp), if_pos (show NoBack c n (c.From.length : Int) from hb)]
  refine Ret.loop c.Objects (fun x s => s = (lowL (if x < n then x else n), highL (if x < n then n else x) n, x)) N0 (by omega) ?_ ?_ ?_
  · refine Prod.ext ?_ (Prod.ext ?_ rfl)
    · dsimp only
      by_cases h : 0 < n
      · rw [if_pos h]; rfl
      · rw [if_neg h, show n = 0 by omega]; rfl
    · dsimp only
      by_cases h : 0 < n
      · rw [if_pos h]
        unfold highL tab
        rw [show (n - n).toNat = 0 by omega]; rfl
      · rw [if_neg h, show n = 0 by omega]; rfl
  · rintro x s next x0 x1 rfl hn
    dsimp only
    rw [if_pos (decide_eq_true x1)]
    refine Ret.ite (fun hx => ?_) (fun hx => ?_)
    · have hx := of_decide_eq_true hx
      have l := low_len (n := x) x0
      rw [if_pos hx, if_pos hx]
      refine Ret.chk (by unfold lim; simp only [List.length_cons, List.length_nil]; omega) (hn _ ?_)
      rw [wrap_in (by omega) (by omega)]
      have e : lowL x ++ [x] = lowL (x + 1) := (tab_succ (fun j => j) x0).symm
      rw [e]
      by_cases h2 : x + 1 < n
      · rw [if_pos h2, if_pos h2]
      · rw [if_neg h2, if_neg h2, show n = x + 1 by omega]
    · have hx : ¬ x < n := fun z => hx (decide_eq_true z)
      have l := high_len (m := x) (n := n) (by omega)
      rw [if_neg hx, if_neg hx]
      refine Ret.chk (by unfold lim; simp only [List.length_cons, List.length_nil]; omega) (hn _ ?_)
      rw [wrap_in (by omega) (by omega), if_neg (show ¬ x + 1 < n by omega), if_neg (show ¬ x + 1 < n by omega)]
      have e : highL x n ++ [x] = highL (x + 1) n := by
        unfold highL
        rw [show x + 1 - n = (x - n) + 1 by omega, tab_succ _ (by omega), show n + (x - n) = x by omega]
      rw [e]
  rintro s next rfl
  dsimp only
  rw [if_neg (by simp), if_neg (by omega), if_neg (by omega)]
  have pl := low_pick hS n0 n1
  have ph := high_pick hS n0 n1
  have sl := (partF_small sc pl)
  have sh := (partF_small sc ph)
  refine Ret.call (l02Full_eq hS sl.s3) (Ret.call (l02Full_eq hS sh.s3) (Ret.call (l02Part_eq pl) (Ret.call (l06Make_eq sl.s1 sc sl.s3 sl.s4) (Ret.call (l02Part_eq ph) (Ret.call (l06Make_eq sh.s1 sc sh.s3 sh.s4) ?_)))))
  exact Ret.call (l22Natural_eq (f := partF c (lowL n)) (g := partF c (highL c.Objects n)) sl.s1 sh.s1 (part_two pl ph)) (Ret.some rfl)

theorem Collage_1 {c : XCategory} {n : Int} {x y : Int} (x0 : 0 ≤ x) (x1 : x < n) (y0 : 0 ≤ y) (y1 : y < c.Objects - n) :
    atL (partF c (lowL n)) (partF c (highL c.Objects n)) x y = homL c x (n + y) := by
  show homL c (el (lowL n) x) (el (highL c.Objects n) y) = _
  unfold lowL highL
  rw [el_tab x0 x1, el_tab y0 y1]

theorem part_from {c : XCategory} {o : List Int} (h : Pick c o) {a : Int} (a0 : 0 ≤ a) (a1 : a < ((fullL c o).length : Int)) :
    el o (el (subC c o).From a) = el c.From (el (fullL c o) a) ∧ el o (el (subC c o).To a) = el c.To (el (fullL c o) a) := by
  have n8 := h.s.n8
  have lo := h.len
  have so : Small o := by unfold Small; omega
  have mf := fullL_mem.1 (el_mem a0 a1)
  have e1 : el (subC c o).From a = indexL o (el c.From (el (fullL c o) a)) := el_map a0 a1
  have e2 : el (subC c o).To a = indexL o (el c.To (el (fullL c o) a)) := el_map a0 a1
  rw [e1, e2]
  exact ⟨(indexL_in so h.nodup mf.2.2.1).2, (indexL_in so h.nodup mf.2.2.2).2⟩

theorem Collage_impl {c : XCategory} (sc : SmallC c) (hc : IsCat c) {n : Int} (n0 : 0 ≤ n) (n1 : n ≤ c.Objects) :
    M.impl_ProfunctorOfCollage c n = some (if NoBack c n (c.From.length : Int) then (natP (partF c (lowL n)) (partF c (highL c.Objects n)), 0) else (zeroP, 5)) := by
  apply Ret.eq
  have hS := hc.1.shp
  have N0 := hS.n0
  have n8 := hS.n8
  have m40 := hS.m40
  have lto := hS.lto
  unfold M.impl_ProfunctorOfCollage
  refine Ret.call (isCategory_eq sc) ?_
  rw [if_pos (decide_eq_true hc)]
  refine Ret.call (inRange_eq _ _ _) ?_
  rw [if_pos (by rw [Bool.and_eq_true]; exact ⟨decide_eq_true n0, decide_eq_true n1⟩)]
  refine Ret.all (c.From.length : Int) (fun f => ¬ (n ≤ el c.From f ∧ el c.To f < n)) (by omega) (by omega) ?_ ?_
  · intro f next f0 f1 hp hn
    rw [if_pos (decide_eq_true f1)]
    refine Ret.idx f0 f1 (Ret.ite (fun h1 => Ret.idx f0 (by omega) (Ret.ite (fun h2 => Ret.some ?_) (fun h2 => hn fun z => h2 (decide_eq_true z.2)))) (fun h1 => hn fun z => h1 (decide_eq_true z.1)))
    rw [if_neg (fun z => z f f0 f1 ⟨of_decide_eq_true h1, of_decide_eq_true h2⟩)]; rfl
  intro next hb
  rw [if_neg (by simp), if_pos (show NoBack c n (c.From.length : Int) from hb)]
  have pl := low_pick hS n0 n1
  have ph := high_pick hS n0 n1
  have sl := (partF_small sc pl)
  have sh := (partF_small sc ph)
  have eh : shifts (upTo (c.Objects - n)) n = highL c.Objects n := by
    unfold shifts highL
    rw [upTo_len (by omega)]
    apply tab_congr
    intro j j0 j1
    unfold upTo
    rw [el_tab j0 j1, Int.add_comm]
  have lu := upTo_len (n := c.Objects - n) (by omega)
  refine Ret.call (show M.impl_numbers n = some (lowL n) from numbers_eq n0 (by omega)) (Ret.call (between_eq hS sl.s3) ?_)
  rw [wrap_in (by omega) (by omega)]
  refine Ret.call (numbers_eq (by omega) (by omega)) (Ret.call (shifted_eq (l := upTo (c.Objects - n)) (by unfold Small; omega) n0 (by omega) (upTo_in (by omega))) ?_)
  rw [eh]
  refine Ret.call (between_eq hS sh.s3) (Ret.call (sub_eq pl) (Ret.call (sub_eq ph) ?_))
  have t2 := part_two pl ph
  have lL := low_len n0
  have lH := high_len n1
  have eO1 : (subC c (lowL n)).Objects = n := lL
  have eO2 : (subC c (highL c.Objects n)).Objects = c.Objects - n := lH
  have la := t2.la
  have la' := t2.la'
  refine Ret.call (profunctor_eq (c := subC c (lowL n)) (d := subC c (highL c.Objects n)) sl.s1 sh.s1 t2.sf t2.sg (U := fun x y => ((atL (partF c (lowL n)) (partF c (highL c.Objects n)) x y).length : Int))
    (V := befL (partF c (lowL n)) (partF c (highL c.Objects n))) (W := behL (partF c (lowL n)) (partF c (highL c.Objects n))) ?_ ?_ ?_) (Ret.some rfl)
  · intro x y x0 x1 y0 y1
    rw [eO1] at x1
    rw [eO2] at y1
    unfold M.impl_ProfunctorOfCollage_1
    rw [Collage_1 x0 x1 y0 y1, wrap_in (by omega) (by omega), hom_eq hS]
    have := homL_len hS x (n + y)
    exact ⟨rfl, by omega⟩
  · intro a y a0 a1 y0 y1
    rw [eO2] at y1
    have a1' : a < ((fullL c (lowL n)).length : Int) := by have : ((fullL c (lowL n)).length : Int) = ((subC c (lowL n)).From.length : Int) := la; omega
    have hf := part_from pl a0 a1'
    have mf := fullL_mem.1 (el_mem a0 a1')
    have eT : atL (partF c (lowL n)) (partF c (highL c.Objects n)) (el (subC c (lowL n)).To a) y = homL c (el c.To (el (fullL c (lowL n)) a)) (n + y) := by
      show homL c (el (lowL n) (el (subC c (lowL n)).To a)) (el (highL c.Objects n) y) = _
      rw [hf.2]
      unfold highL
      rw [el_tab y0 y1]
    have eF : atL (partF c (lowL n)) (partF c (highL c.Objects n)) (el (subC c (lowL n)).From a) y = homL c (el c.From (el (fullL c (lowL n)) a)) (n + y) := by
      show homL c (el (lowL n) (el (subC c (lowL n)).From a)) (el (highL c.Objects n) y) = _
      rw [hf.1]
      unfold highL
      rw [el_tab y0 y1]
    have eV : befL (partF c (lowL n)) (partF c (highL c.Objects n)) a y = (homL c (el c.To (el (fullL c (lowL n)) a)) (n + y)).map fun h => indexL (homL c (el c.From (el (fullL c (lowL n)) a)) (n + y)) (cmp c (el (fullL c (lowL n)) a) h) := by
      unfold befL
      rw [show (partF c (lowL n)).Source = subC c (lowL n) from rfl, eT, eF]; rfl
    apply Ret.eq
    rw [eV]
    have l1 := homL_len hS (el c.To (el (fullL c (lowL n)) a)) (n + y)
    have l2 := homL_len hS (el c.From (el (fullL c (lowL n)) a)) (n + y)
    unfold M.impl_ProfunctorOfCollage_2
    rw [wrap_in (by omega) (by omega)]
    refine Ret.idx a0 a1' (Ret.idx mf.1 (by omega) (Ret.call (hom_eq hS _ _) ?_))
    refine map_loop (l := homL c (el c.To (el (fullL c (lowL n)) a)) (n + y)) (F := fun h => indexL (homL c (el c.From (el (fullL c (lowL n)) a)) (n + y)) (cmp c (el (fullL c (lowL n)) a) h)) (by unfold Small; omega) ?_ ?_
    · intro i s next i0 i1 hs hn
      have m := homL_mem.1 (el_mem i0 i1)
      dsimp only
      rw [if_pos (decide_eq_true i1)]
      refine Ret.idx i0 i1 (Ret.idx mf.1 mf.2.1 (Ret.call (hom_eq hS _ _) (Ret.call (then_in hS ⟨mf.1, mf.2.1⟩ ⟨m.1, m.2.1⟩) (Ret.call (index_eq (by unfold Small; omega) _) (Ret.chk ?_ hn)))))
      unfold lim; simp only [List.length_cons, List.length_nil]; omega
    · intro next
      dsimp only
      rw [if_neg (by simp)]
      exact Ret.some rfl
  · intro b x b0 b1 x0 x1
    rw [eO1] at x1
    have b1' : b < ((fullL c (highL c.Objects n)).length : Int) := by have : ((fullL c (highL c.Objects n)).length : Int) = ((subC c (highL c.Objects n)).From.length : Int) := la'; omega
    have hf := part_from ph b0 b1'
    have mf := fullL_mem.1 (el_mem b0 b1')
    have eT : atL (partF c (lowL n)) (partF c (highL c.Objects n)) x (el (subC c (highL c.Objects n)).To b) = homL c x (el c.To (el (fullL c (highL c.Objects n)) b)) := by
      show homL c (el (lowL n) x) (el (highL c.Objects n) (el (subC c (highL c.Objects n)).To b)) = _
      rw [hf.2]
      unfold lowL
      rw [el_tab x0 x1]
    have eF : atL (partF c (lowL n)) (partF c (highL c.Objects n)) x (el (subC c (highL c.Objects n)).From b) = homL c x (el c.From (el (fullL c (highL c.Objects n)) b)) := by
      show homL c (el (lowL n) x) (el (highL c.Objects n) (el (subC c (highL c.Objects n)).From b)) = _
      rw [hf.1]
      unfold lowL
      rw [el_tab x0 x1]
    have eW : behL (partF c (lowL n)) (partF c (highL c.Objects n)) b x = (homL c x (el c.From (el (fullL c (highL c.Objects n)) b))).map fun h => indexL (homL c x (el c.To (el (fullL c (highL c.Objects n)) b))) (cmp c h (el (fullL c (highL c.Objects n)) b)) := by
      unfold behL
      rw [show (partF c (highL c.Objects n)).Source = subC c (highL c.Objects n) from rfl, eT, eF]; rfl
    apply Ret.eq
    rw [eW]
    have l1 := homL_len hS x (el c.From (el (fullL c (highL c.Objects n)) b))
    have l2 := homL_len hS x (el c.To (el (fullL c (highL c.Objects n)) b))
    unfold M.impl_ProfunctorOfCollage_3
    refine Ret.idx b0 b1' (Ret.idx mf.1 mf.2.1 (Ret.call (hom_eq hS _ _) ?_))
    refine map_loop (l := homL c x (el c.From (el (fullL c (highL c.Objects n)) b))) (F := fun h => indexL (homL c x (el c.To (el (fullL c (highL c.Objects n)) b))) (cmp c h (el (fullL c (highL c.Objects n)) b))) (by unfold Small; omega) ?_ ?_
    · intro i s next i0 i1 hs hn
      have m := homL_mem.1 (el_mem i0 i1)
      dsimp only
      rw [if_pos (decide_eq_true i1)]
      refine Ret.idx i0 i1 (Ret.idx mf.1 (by omega) (Ret.call (hom_eq hS _ _) (Ret.call (then_in hS ⟨m.1, m.2.1⟩ ⟨mf.1, mf.2.1⟩) (Ret.call (index_eq (by unfold Small; omega) _) (Ret.chk ?_ hn)))))
      unfold lim; simp only [List.length_cons, List.length_nil]; omega
    · intro next
      dsimp only
      rw [if_neg (by simp)]
      exact Ret.some rfl

theorem ProfunctorOfCollage_both {c : XCategory} (sc : SmallC c) (n : Int) : ∃ r w, SmallP r ∧ M.spec_ProfunctorOfCollage c n = some (r, w) ∧ M.impl_ProfunctorOfCollage c n = some (r, w) := by
  by_cases hc : IsCat c
  · by_cases hn : 0 ≤ n ∧ n ≤ c.Objects
    · rw [Collage_spec sc hc hn.1 hn.2, Collage_impl sc hc hn.1 hn.2]
      by_cases hb : NoBack c n (c.From.length : Int)
      · rw [if_pos hb]
        have pl := low_pick hc.1.shp hn.1 hn.2
        have ph := high_pick hc.1.shp hn.1 hn.2
        exact ⟨_, _, natP_small (partF_small sc pl).s1 (partF_small sc ph).s1 (part_two pl ph), rfl, rfl⟩
      · rw [if_neg hb]
        exact ⟨_, _, zeroP_small, rfl, rfl⟩
    · have e : ¬ (decide (0 ≤ n) && decide (n ≤ c.Objects)) = true := fun x => by
        rw [Bool.and_eq_true] at x
        exact hn ⟨of_decide_eq_true x.1, of_decide_eq_true x.2⟩
      refine ⟨zeroP, 2, zeroP_small, ?_, ?_⟩
      · unfold M.spec_ProfunctorOfCollage
        rw [l02Is_eq sc, decide_eq_true hc]
        simp only [Option.bind_some, if_true]
        rw [l01In_eq]
        simp only [Option.bind_some]
        rw [if_neg e]; rfl
      · unfold M.impl_ProfunctorOfCollage
        rw [isCategory_eq sc, decide_eq_true hc]
        simp only [Option.bind_some, if_true]
        rw [inRange_eq]
        simp only [Option.bind_some]
        rw [if_neg e]; rfl
  · refine ⟨zeroP, 1, zeroP_small, ?_, ?_⟩
    · unfold M.spec_ProfunctorOfCollage
      rw [l02Is_eq sc, decide_eq_false hc]; rfl
    · unfold M.impl_ProfunctorOfCollage
      rw [isCategory_eq sc, decide_eq_false hc]; rfl

theorem law_ProfunctorOfCollage {a0 : XCategory} {a1 : Int} (h0 : R.XCategory a0) : M.laws_FnExactProfunctorOfCollage a0 a1 = some true := by
  unfold M.laws_FnExactProfunctorOfCollage
  obtain ⟨v0, e0, hv0⟩ := szCategory_r (n := 1048576) (by decide) (by decide) (fitsC h0)
  rw [e0, Option.bind_some]
  rcases hv0 with ⟨z0, _⟩ | ⟨l0, u0, s0⟩
  · rw [if_pos (decide_eq_true z0)]
  · rw [if_neg (fun h => absurd (of_decide_eq_true h) (by omega))]
    rw [toCategory_eq s0, Option.bind_some]
    obtain ⟨g0, w, hg0, es, ei⟩ := ProfunctorOfCollage_both s0 a1
    rw [es, ei]
    simp only [Option.bind_some]
    rw [eqProfunctor_refl hg0, eqCategory_refl s0]
    obtain ⟨n0, x0, p0, q0, c0, d0, _⟩ := mh_C s0 1 (by omega) (by omega)
    obtain ⟨n1, x1, p1, q1, c1, d1, _⟩ := mh_P hg0 1 (by omega) (by omega)
    simp only [Option.bind_some, bne_self_eq_false, Bool.false_eq_true, if_false, if_true, decide_eq_true_eq, c0, c1, d1]
    rw [if_neg (by omega), if_neg (by omega)]

end Go.Gx
