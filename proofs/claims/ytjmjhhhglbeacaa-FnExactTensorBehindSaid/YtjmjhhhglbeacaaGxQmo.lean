/- Plain laws: monoidal categories. -/
import Derived.Test.YtjmjhhhglbeacaaGxQo
import Derived.Test.YtjmjhhhglbeacaaGxQl
import Derived.Test.YtjmjhhhglbeacaaGxQp
import Derived.Test.YtjmjhhhglbeacaaGxyMM
namespace Go.Gx
open Classical
set_option maxHeartbeats 2000000

structure SmallO (m : XMonoidal) : Prop where
  s1 : SmallC m.On
  s2 : Small m.Objects
  s3 : ∀ r ∈ m.Objects, Small r
  s4 : Small m.Arrows
  s5 : ∀ r ∈ m.Arrows, Small r
structure FitsO (m : XMonoidal) : Prop where
  f1 : FitsC m.On
  f2 : Fits m.Objects
  f3 : ∀ r ∈ m.Objects, Fits r
  f4 : Fits m.Arrows
  f5 : ∀ r ∈ m.Arrows, Fits r
theorem fitsO {m : XMonoidal} (h : R.XMonoidal m) : FitsO m := ⟨fitsC h.1, h.2.2.1.1, fun r hr => (h.2.2.1.2 r hr).1, h.2.2.2.1, fun r hr => (h.2.2.2.2 r hr).1⟩

theorem szMonoidal_r {m : XMonoidal} {n : Int} (h0 : 0 ≤ n) (h1 : n ≤ 1048576) (h : FitsO m) :
    Ret (M.laws_szMonoidal m n) fun r => (r < 0 ∧ r = -1) ∨ (0 ≤ r ∧ r ≤ n ∧ SmallO m) := by
  obtain ⟨g1, g2, g3, g4, g5⟩ := h
  unfold M.laws_szMonoidal
  simp only [decide_eq_true_eq]
  (repeat' (first | with_reducible refine Ret.pos ‹_› ?_ | with_reducible refine Ret.neg ‹_› ?_ | with_reducible refine Ret.neg (Int.lt_irrefl _) ?_ | with_reducible refine Ret.ite (fun _ => ?_) (fun _ => ?_) | with_reducible refine Ret.idx ?_ ?_ ?_ | with_reducible refine Ret.chk ?_ ?_ | with_reducible refine hn3 ?_ | with_reducible refine hn2 ?_ | with_reducible refine hn1 ?_ | with_reducible refine hn3 _ ?_ | with_reducible refine hn2 _ ?_ | with_reducible refine hn1 _ ?_ | with_reducible refine Ret.bind (szInt64SS_r ?_ ?_ ?_ ?_) fun v hv => ?_ | with_reducible refine Ret.bind (szCategory_r ?_ ?_ ?_) fun v hv => ?_ | with_reducible refine Ret.some ?_))
  all_goals first | assumption | omega | (refine Or.inl ⟨by omega, rfl⟩) | (refine Or.inr ⟨by omega, by omega, ⟨?_, ?_, ?_, ?_, ?_⟩⟩ <;> grind)
theorem toMonoidal_eq {m : XMonoidal} (h : SmallO m) : M.laws_toMonoidal m = some m := by
  unfold M.laws_toMonoidal
  rw [toCategory_eq h.s1, toInt64SS_eq h.s2 h.s3, toInt64SS_eq h.s4 h.s5]; rfl
theorem eqMonoidal_refl {m : XMonoidal} (h : SmallO m) : M.laws_eqMonoidal m m = some true := by
  unfold M.laws_eqMonoidal
  rw [eqCategory_refl h.s1, eqInt64SS_refl h.s2 h.s3, eqInt64SS_refl h.s4 h.s5]; simp

/-- An entry of a table. -/
abbrev tb (t : List (List Int)) (i j : Int) : Int := el (el t i) j
def RowOk (n : Int) (t : List (List Int)) (i : Int) : Prop := ((el t i).length : Int) = n ∧ In n (el t i)
structure Tbl (n : Int) (t : List (List Int)) : Prop where
  l : (t.length : Int) = n
  r : ∀ i, 0 ≤ i → i < n → RowOk n t i
theorem Tbl.iff {n : Int} {t : List (List Int)} : Tbl n t ↔ (t.length : Int) = n ∧ ∀ i, 0 ≤ i → i < n → RowOk n t i := ⟨fun h => ⟨h.1, h.2⟩, fun h => ⟨h.1, h.2⟩⟩
theorem Tbl.inn {n : Int} {t : List (List Int)} (h : Tbl n t) {i j : Int} (i0 : 0 ≤ i ∧ i < n) (j0 : 0 ≤ j ∧ j < n) : 0 ≤ tb t i j ∧ tb t i j < n := by
  have := h.r i i0.1 i0.2
  exact this.2 j j0.1 (by rw [this.1]; exact j0.2)
theorem Tbl.idx {ρ : Type} {Q : ρ → Prop} {n : Int} {t : List (List Int)} (h : Tbl n t) {i j : Int} {f : Int → Option ρ} (i0 : 0 ≤ i ∧ i < n) (j0 : 0 ≤ j ∧ j < n) (hf : Ret (f (tb t i j)) Q) : Ret ((Gx.idx t i).bind fun y => (Gx.idx y j).bind f) Q := by
  have l := h.l
  have := (h.r i i0.1 i0.2).1
  exact Ret.idx i0.1 (by omega) (Ret.idx j0.1 (by omega) hf)

theorem l35Table_eq {t : List (List Int)} {n : Int} (st : Small t) (sr : ∀ r ∈ t, Small r) : M.spec_l35Table t n n = some (decide (Tbl n t)) := by
  apply Ret.ask
  unfold M.spec_l35Table
  simp only [beq_iff_eq]
  refine Ret.ite (fun hl => Ret.bindId ?_) (fun hl => Ret.some ⟨(fun h => by cases h), fun e => absurd e.l hl⟩)
  unfold M.spec_l03Square
  simp only [bne_iff_ne, ne_eq]
  refine Ret.all (t.length : Int) (fun i => RowOk n t i) (by omega) (by omega) ?_ ?_
  · intro i next i0 i1 hp hn
    rw [if_pos (decide_eq_true i1)]
    refine Ret.idx i0 i1 (Ret.ite (fun hb => Ret.some ⟨(fun h => by cases h), fun e => absurd (e.r i i0 (by omega)).1 (by rw [hl] at hb; exact hb)⟩) (fun hb => ?_))
    refine Ret.call (l01Map_eq (sr _ (el_mem i0 i1))) (Ret.ite (fun hc => hn ⟨by have := Decidable.not_not.1 hb; omega, of_decide_eq_true hc⟩) (fun hc => Ret.some ⟨(fun h => by cases h), fun e => absurd (decide_eq_true (e.r i i0 (by omega)).2) hc⟩))
  · intro next hp
    rw [if_neg (by simp)]
    exact Ret.some ⟨fun _ => ⟨hl, fun i i0 i1 => hp i i0 (by omega)⟩, fun _ => rfl⟩

theorem isTable_eq {t : List (List Int)} {n : Int} (st : Small t) (sr : ∀ r ∈ t, Small r) (h0 : -4611686018427387904 ≤ n) (h1 : n ≤ 4611686018427387904) : M.impl_isTable t n = some (decide (Tbl n t)) := by
  apply Ret.ask
  unfold M.impl_isTable
  simp only [bne_iff_ne, ne_eq]
  refine Ret.ite (fun hl => Ret.some ⟨(fun h => by cases h), fun e => absurd e.l hl⟩) (fun hl => ?_)
  have hl := Decidable.not_not.1 hl
  refine Ret.all (t.length : Int) (fun i => RowOk n t i) (by omega) (by omega) ?_ ?_
  · intro i next i0 i1 hp hn
    rw [if_pos (decide_eq_true i1)]
    refine Ret.idx i0 i1 (Ret.ite (fun hb => Ret.some ⟨(fun h => by cases h), fun e => absurd (e.r i i0 (by omega)).1 hb⟩) (fun hb => ?_))
    refine Ret.call (within_eq (sr _ (el_mem i0 i1)) h0 h1) (Ret.ite (fun hc => hn ⟨Decidable.not_not.1 hb, of_decide_eq_true hc⟩) (fun hc => Ret.some ⟨(fun h => by cases h), fun e => absurd (decide_eq_true (e.r i i0 (by omega)).2) hc⟩))
  · intro next hp
    rw [if_neg (by simp)]
    exact Ret.some ⟨fun _ => ⟨hl, fun i i0 i1 => hp i i0 (by omega)⟩, fun _ => rfl⟩

/-- A table with a unit, associative. -/
def Asc (n : Int) (t : List (List Int)) (i : Int) : Prop := ∀ j, 0 ≤ j → j < n → ∀ k, 0 ≤ k → k < n → tb t (tb t i j) k = tb t i (tb t j k)
def WhI (n : Int) (t : List (List Int)) (u i : Int) : Prop := tb t u i = i ∧ tb t i u = i ∧ Asc n t i
def Whole (n : Int) (t : List (List Int)) (u : Int) : Prop := ∀ i, 0 ≤ i → i < n → WhI n t u i

theorem l35Whole_eq {n : Int} {t : List (List Int)} {u : Int} (n0 : 0 ≤ n) (n1 : n ≤ 1024) (h : Tbl n t) (hu : 0 ≤ u ∧ u < n) : M.spec_l35Whole t u = some (decide (Whole n t u)) := by
  apply Ret.ask
  have l := h.l
  have lr : ∀ i, 0 ≤ i → i < n → ((el t i).length : Int) = n := fun i i0 i1 => (h.r i i0 i1).1
  unfold M.spec_l35Whole
  simp only [bne_iff_ne, ne_eq, l]
  refine Ret.all n (fun i => WhI n t u i) n0 (by omega) ?_ ?_
  · intro i next i0 i1 hp hn
    rw [if_pos (decide_eq_true i1)]
    have ru := lr u hu.1 hu.2
    have ri := lr i i0 i1
    refine Ret.idx hu.1 (by omega) (Ret.idx i0 (by omega) (Ret.ite (fun hb => Ret.some ⟨(fun h => by cases h), fun e => absurd (e i i0 i1).1 hb⟩) (fun hb => ?_)))
    refine Ret.idx i0 (by omega) (Ret.idx hu.1 (by omega) (Ret.ite (fun hc => Ret.some ⟨(fun h => by cases h), fun e => absurd (e i i0 i1).2.1 hc⟩) (fun hc => ?_)))
    refine Ret.all n (fun j => ∀ k, 0 ≤ k → k < n → tb t (tb t i j) k = tb t i (tb t j k)) n0 (by omega) ?_ ?_
    · intro j next j0 j1 hq hn2
      rw [if_pos (decide_eq_true j1)]
      refine Ret.all n (fun k => tb t (tb t i j) k = tb t i (tb t j k)) n0 (by omega) ?_ ?_
      · intro k next k0 k1 hr hn3
        rw [if_pos (decide_eq_true k1)]
        have a := h.inn ⟨i0, i1⟩ ⟨j0, j1⟩
        have b := h.inn ⟨j0, j1⟩ ⟨k0, k1⟩
        have ra := lr _ a.1 a.2
        have rj := lr j j0 j1
        refine Ret.idx j0 (by omega) (Ret.idx a.1 (by show tb t i j < _; omega) (Ret.idx k0 (by show k < ((el t (tb t i j)).length : Int); omega) (Ret.idx j0 (by omega) (Ret.idx k0 (by omega) (Ret.idx b.1 (by show tb t j k < _; omega) ?_)))))
        exact Ret.ite (fun hd => Ret.some ⟨(fun h => by cases h), fun e => absurd ((e i i0 i1).2.2 j j0 j1 k k0 k1) hd⟩) (fun hd => hn3 (Decidable.not_not.1 hd))
      · intro next hr
        rw [if_neg (by simp)]
        exact hn2 hr
    · intro next hq
      rw [if_neg (by simp)]
      exact hn ⟨Decidable.not_not.1 hb, Decidable.not_not.1 hc, hq⟩
  · intro next hp
    rw [if_neg (by simp)]
    exact Ret.some ⟨fun _ => hp, fun _ => rfl⟩

theorem isAssociative_eq {n : Int} {t : List (List Int)} {u : Int} (n0 : 0 ≤ n) (n1 : n ≤ 1024) (h : Tbl n t) (hu : 0 ≤ u ∧ u < n) : M.impl_isAssociative t u = some (decide (Whole n t u)) := by
  apply Ret.ask
  have l := h.l
  have lr : ∀ i, 0 ≤ i → i < n → ((el t i).length : Int) = n := fun i i0 i1 => (h.r i i0 i1).1
  unfold M.impl_isAssociative
  simp only [bne_iff_ne, ne_eq, l]
  refine Ret.all n (fun i => WhI n t u i) n0 (by omega) ?_ ?_
  · intro i next i0 i1 hp hn
    rw [if_pos (decide_eq_true i1)]
    have ru := lr u hu.1 hu.2
    have ri := lr i i0 i1
    refine Ret.idx i0 (by omega) (Ret.idx hu.1 (by omega) (Ret.ite (fun hc => Ret.some ⟨(fun h => by cases h), fun e => absurd (e i i0 i1).2.1 hc⟩) (fun hc => ?_)))
    refine Ret.idx hu.1 (by omega) (Ret.idx i0 (by omega) (Ret.ite (fun hb => Ret.some ⟨(fun h => by cases h), fun e => absurd (e i i0 i1).1 hb⟩) (fun hb => ?_)))
    refine Ret.all n (fun j => ∀ k, 0 ≤ k → k < n → tb t (tb t i j) k = tb t i (tb t j k)) n0 (by omega) ?_ ?_
    · intro j next j0 j1 hq hn2
      rw [if_pos (decide_eq_true j1)]
      refine Ret.all n (fun k => tb t (tb t i j) k = tb t i (tb t j k)) n0 (by omega) ?_ ?_
      · intro k next k0 k1 hr hn3
        rw [if_pos (decide_eq_true k1)]
        have a := h.inn ⟨i0, i1⟩ ⟨j0, j1⟩
        have b := h.inn ⟨j0, j1⟩ ⟨k0, k1⟩
        have ra := lr _ a.1 a.2
        have rj := lr j j0 j1
        refine Ret.idx j0 (by omega) (Ret.idx a.1 (by show tb t i j < _; omega) (Ret.idx k0 (by show k < ((el t (tb t i j)).length : Int); omega) (Ret.idx j0 (by omega) (Ret.idx k0 (by omega) (Ret.idx b.1 (by show tb t j k < _; omega) ?_)))))
        exact Ret.ite (fun hd => Ret.some ⟨(fun h => by cases h), fun e => absurd ((e i i0 i1).2.2 j j0 j1 k k0 k1) hd⟩) (fun hd => hn3 (Decidable.not_not.1 hd))
      · intro next hr
        rw [if_neg (by simp)]
        exact hn2 hr
    · intro next hq
      rw [if_neg (by simp)]
      exact hn ⟨Decidable.not_not.1 hb, Decidable.not_not.1 hc, hq⟩
  · intro next hp
    rw [if_neg (by simp)]
    exact Ret.some ⟨fun _ => hp, fun _ => rfl⟩

/-! ### monoidal categories -/
abbrev mA (m : XMonoidal) (f g : Int) : Int := tb m.Arrows f g
abbrev mO (m : XMonoidal) (x y : Int) : Int := tb m.Objects x y
def EndM (m : XMonoidal) (f g : Int) : Prop := el m.On.From (mA m f g) = mO m (el m.On.From f) (el m.On.From g) ∧ el m.On.To (mA m f g) = mO m (el m.On.To f) (el m.On.To g)
def IdM (m : XMonoidal) (x y : Int) : Prop := mA m (el m.On.Identity x) (el m.On.Identity y) = el m.On.Identity (mO m x y)
def IntM (m : XMonoidal) (f h g k : Int) : Prop := el m.On.To f = el m.On.From h → el m.On.To g = el m.On.From k → mA m (cmp m.On f h) (cmp m.On g k) = cmp m.On (mA m f g) (mA m h k)
/-- Its tables. -/
structure TabM (m : XMonoidal) : Prop where
  cat : IsCat m.On
  u : 0 ≤ m.Unit ∧ m.Unit < m.On.Objects
  o : Tbl m.On.Objects m.Objects
  a : Tbl (m.On.From.length : Int) m.Arrows
structure IsTen (m : XMonoidal) : Prop where
  t : TabM m
  e : ∀ f, 0 ≤ f → f < (m.On.From.length : Int) → ∀ g, 0 ≤ g → g < (m.On.From.length : Int) → EndM m f g
  wo : Whole m.On.Objects m.Objects m.Unit
  wa : Whole (m.On.From.length : Int) m.Arrows (el m.On.Identity m.Unit)
  i : ∀ x, 0 ≤ x → x < m.On.Objects → ∀ y, 0 ≤ y → y < m.On.Objects → IdM m x y
  c : ∀ f, 0 ≤ f → f < (m.On.From.length : Int) → ∀ h, 0 ≤ h → h < (m.On.From.length : Int) → ∀ g, 0 ≤ g → g < (m.On.From.length : Int) → ∀ k, 0 ≤ k → k < (m.On.From.length : Int) → IntM m f h g k

theorem cmp_sign {c : XCategory} (h : Shp c) {i j : Int} (i0 : 0 ≤ i) (i1 : i < (c.From.length : Int)) (j0 : 0 ≤ j) (j1 : j < (c.From.length : Int)) : 0 ≤ cmp c i j ↔ el c.To i = el c.From j := by
  constructor
  · intro h0
    apply Decidable.byContradiction
    intro hne
    have := h.no i j i0 i1 j0 j1 hne
    omega
  · intro e
    exact (h.yes i j i0 i1 j0 j1 e).1

theorem l35Ends_eq {m : XMonoidal} (t : TabM m) : M.spec_l35Ends m = some (decide (∀ f, 0 ≤ f → f < (m.On.From.length : Int) → ∀ g, 0 ≤ g → g < (m.On.From.length : Int) → EndM m f g)) := by
  apply Ret.ask
  have hS := t.cat.1.shp
  have m40 := hS.m40
  have lto := hS.lto
  unfold M.spec_l35Ends
  simp only [bne_iff_ne, ne_eq]
  refine Ret.all (m.On.From.length : Int) (fun f => ∀ g, 0 ≤ g → g < (m.On.From.length : Int) → EndM m f g) (by omega) (by omega) ?_ ?_
  · intro f next f0 f1 hp hn
    rw [if_pos (decide_eq_true f1)]
    refine Ret.all (m.On.From.length : Int) (fun g => EndM m f g) (by omega) (by omega) ?_ ?_
    · intro g next g0 g1 hq hn2
      rw [if_pos (decide_eq_true g1)]
      have a := t.a.inn ⟨f0, f1⟩ ⟨g0, g1⟩
      refine t.a.idx ⟨f0, f1⟩ ⟨g0, g1⟩ (Ret.idx a.1 a.2 (Ret.idx f0 f1 ?_))
      have ff := hS.from_in f f0 f1
      have fg := hS.from_in g g0 g1
      have tf := hS.to_in f f0 f1
      have tg := hS.to_in g g0 g1
      have lo := t.o.l
      have r1 := (t.o.r _ ff.1 ff.2).1
      have r2 := (t.o.r _ tf.1 tf.2).1
      refine Ret.idx ff.1 (by omega) (Ret.idx g0 g1 (Ret.idx fg.1 (by omega) (Ret.ite (fun hb => Ret.some ⟨(fun h => by cases h), fun e => absurd (e f f0 f1 g g0 g1).1 hb⟩) (fun hb => ?_))))
      refine Ret.idx a.1 (by omega) (Ret.idx f0 (by omega) (Ret.idx tf.1 (by omega) (Ret.idx g0 (by omega) (Ret.idx tg.1 (by omega) (Ret.ite (fun hc => Ret.some ⟨(fun h => by cases h), fun e => absurd (e f f0 f1 g g0 g1).2 hc⟩) (fun hc => hn2 ⟨Decidable.not_not.1 hb, Decidable.not_not.1 hc⟩))))))
    · intro next hq
      rw [if_neg (by simp)]
      exact hn hq
  · intro next hp
    rw [if_neg (by simp)]
    exact Ret.some ⟨fun _ => hp, fun _ => rfl⟩

theorem l35Is_eq {m : XMonoidal} (sm : SmallO m) : M.spec_l35Is m = some (decide (IsTen m)) := by
  apply Ret.ask
  unfold M.spec_l35Is
  simp only [bne_iff_ne, ne_eq]
  refine Ret.call (l02Is_eq sm.s1) (Ret.ite (fun h1 => ?_) (fun h => Ret.some ⟨(fun h => by cases h), fun e => absurd (decide_eq_true e.t.cat) h⟩))
  have h1 := of_decide_eq_true h1
  refine Ret.call (l02Object_eq _ _) (Ret.ite (fun h2 => ?_) (fun h => Ret.some ⟨(fun h => by cases h), fun e => absurd (decide_eq_true e.t.u) h⟩))
  have h2 := of_decide_eq_true h2
  refine Ret.call (l35Table_eq sm.s2 sm.s3) (Ret.ite (fun h3 => ?_) (fun h => Ret.some ⟨(fun h => by cases h), fun e => absurd (decide_eq_true e.t.o) h⟩))
  have h3 := of_decide_eq_true h3
  refine Ret.call (l35Table_eq sm.s4 sm.s5) (Ret.ite (fun h4 => ?_) (fun h => Ret.some ⟨(fun h => by cases h), fun e => absurd (decide_eq_true e.t.a) h⟩))
  have h4 := of_decide_eq_true h4
  have t : TabM m := ⟨h1, h2, h3, h4⟩
  have hS := h1.1.shp
  have m40 := hS.m40
  have n0 := hS.n0
  have n8 := hS.n8
  have lid := hS.lid
  have lco := hS.lco
  refine Ret.call (l35Ends_eq t) (Ret.ite (fun h5 => ?_) (fun h => Ret.some ⟨(fun h => by cases h), fun e => absurd (decide_eq_true e.e) h⟩))
  have h5 := of_decide_eq_true h5
  refine Ret.call (l35Whole_eq n0 (by omega) h3 h2) (Ret.ite (fun h6 => ?_) (fun h => Ret.some ⟨(fun h => by cases h), fun e => absurd (decide_eq_true e.wo) h⟩))
  have h6 := of_decide_eq_true h6
  have iu := hS.id_in _ h2.1 h2.2
  refine Ret.idx h2.1 (by omega) (Ret.call (l35Whole_eq (by omega) (by omega) h4 iu) (Ret.ite (fun h7 => ?_) (fun h => Ret.some ⟨(fun h => by cases h), fun e => absurd (decide_eq_true e.wa) h⟩)))
  have h7 := of_decide_eq_true h7
  refine Ret.all m.On.Objects (fun x => ∀ y, 0 ≤ y → y < m.On.Objects → IdM m x y) n0 (by omega) ?_ ?_
  · intro x next x0 x1 hp hn
    rw [if_pos (decide_eq_true x1)]
    refine Ret.all m.On.Objects (fun y => IdM m x y) n0 (by omega) ?_ ?_
    · intro y next y0 y1 hq hn2
      rw [if_pos (decide_eq_true y1)]
      have ix := hS.id_in x x0 x1
      have iy := hS.id_in y y0 y1
      have la := t.a.l
      have ra := (t.a.r _ ix.1 ix.2).1
      have o := t.o.inn ⟨x0, x1⟩ ⟨y0, y1⟩
      refine Ret.idx x0 (by omega) (Ret.idx ix.1 (by omega) (Ret.idx y0 (by omega) (Ret.idx iy.1 (by omega) (t.o.idx ⟨x0, x1⟩ ⟨y0, y1⟩ (Ret.idx o.1 (by omega) ?_)))))
      exact Ret.ite (fun hb => Ret.some ⟨(fun h => by cases h), fun e => absurd (e.i x x0 x1 y y0 y1) hb⟩) (fun hb => hn2 (Decidable.not_not.1 hb))
    · intro next hq
      rw [if_neg (by simp)]
      exact hn hq
  intro next h8
  rw [if_neg (by simp)]
  refine Ret.all (m.On.From.length : Int) (fun f => ∀ h, 0 ≤ h → h < (m.On.From.length : Int) → ∀ g, 0 ≤ g → g < (m.On.From.length : Int) → ∀ k, 0 ≤ k → k < (m.On.From.length : Int) → IntM m f h g k) (by omega) (by omega) ?_ ?_
  · intro f next f0 f1 hp hn
    rw [if_pos (decide_eq_true f1)]
    refine Ret.all (m.On.From.length : Int) (fun h => ∀ g, 0 ≤ g → g < (m.On.From.length : Int) → ∀ k, 0 ≤ k → k < (m.On.From.length : Int) → IntM m f h g k) (by omega) (by omega) ?_ ?_
    · intro h next j0 j1 hq hn2
      rw [if_pos (decide_eq_true j1)]
      have rf := hS.row f f0 f1
      refine Ret.idx f0 (by omega) (Ret.idx j0 (by omega) (Ret.ite (fun hb => hn2 fun g g0 g1 k k0 k1 e => ?_) (fun hb => ?_)))
      · have := (cmp_sign hS f0 f1 j0 j1).2 e
        have hb := of_decide_eq_true hb
        exact absurd this (Int.not_le.2 hb)
      have hfh : 0 ≤ cmp m.On f h := Int.not_lt.1 fun x => hb (decide_eq_true x)
      have efh := (cmp_sign hS f0 f1 j0 j1).1 hfh
      have c1 := hS.yes f h f0 f1 j0 j1 efh
      refine Ret.all (m.On.From.length : Int) (fun g => ∀ k, 0 ≤ k → k < (m.On.From.length : Int) → IntM m f h g k) (by omega) (by omega) ?_ ?_
      · intro g next g0 g1 hr hn3
        rw [if_pos (decide_eq_true g1)]
        refine Ret.all (m.On.From.length : Int) (fun k => IntM m f h g k) (by omega) (by omega) ?_ ?_
        · intro k next k0 k1 hs hn4
          rw [if_pos (decide_eq_true k1)]
          have rg := hS.row g g0 g1
          refine Ret.idx g0 (by omega) (Ret.idx k0 (by omega) (Ret.ite (fun hc => ?_) (fun hc => hn4 fun _ e => ?_)))
          · have hgk : 0 ≤ cmp m.On g k := of_decide_eq_true hc
            have egk := (cmp_sign hS g0 g1 k0 k1).1 hgk
            have c2 := hS.yes g k g0 g1 k0 k1 egk
            have a1 := t.a.inn ⟨f0, f1⟩ ⟨g0, g1⟩
            have a2 := t.a.inn ⟨j0, j1⟩ ⟨k0, k1⟩
            have ra1 := hS.row _ a1.1 a1.2
            have la := t.a.l
            have rh := (t.a.r h j0 j1).1
            refine t.a.idx c1 c2 (t.a.idx ⟨f0, f1⟩ ⟨g0, g1⟩ (Ret.idx a1.1 (by omega) (Ret.idx j0 (by omega) (Ret.idx k0 (by omega) (Ret.idx a2.1 (by show tb m.Arrows h k < ((el m.On.Composites (tb m.Arrows f g)).length : Int); omega) ?_)))))
            exact Ret.ite (fun hd => Ret.some ⟨(fun h => by cases h), fun e => absurd (e.c f f0 f1 h j0 j1 g g0 g1 k k0 k1 efh egk) hd⟩) (fun hd => hn4 fun _ _ => Decidable.not_not.1 hd)
          · exact absurd ((cmp_sign hS g0 g1 k0 k1).2 e) (fun x => hc (decide_eq_true x))
        · intro next hs
          rw [if_neg (by simp)]
          exact hn3 hs
      · intro next hr
        rw [if_neg (by simp)]
        exact hn2 hr
    · intro next hq
      rw [if_neg (by simp)]
      exact hn hq
  · intro next h9
    rw [if_neg (by simp)]
    exact Ret.some ⟨fun _ => ⟨t, h5, h6, h7, h8, h9⟩, fun _ => rfl⟩

/-! ### as impl asks it -/
def Idn (c : XCategory) (f : Int) : Prop := el c.Identity (el c.From f) = f
theorem isIdentity_eq {c : XCategory} (h : Shp c) {f : Int} (f0 : 0 ≤ f) (f1 : f < (c.From.length : Int)) : M.impl_Category_isIdentity c f = some (decide (Idn c f)) := by
  have a := h.from_in f f0 f1
  have l := h.lid
  unfold M.impl_Category_isIdentity
  rw [idx_el f0 f1]
  show (idx c.Identity (el c.From f)).bind _ = _
  rw [idx_el a.1 (by omega)]
  show some (el c.Identity (el c.From f) == f) = some (decide (Idn c f))
  congr 1
  rw [Bool.eq_iff_iff, beq_iff_eq, decide_eq_true_iff]; rfl

def OneM (m : XMonoidal) (f g : Int) : Prop := EndM m f g ∧ (Idn m.On f → Idn m.On g → Idn m.On (mA m f g))
theorem ids_of {m : XMonoidal} (t : TabM m) (h : ∀ f, 0 ≤ f → f < (m.On.From.length : Int) → ∀ g, 0 ≤ g → g < (m.On.From.length : Int) → OneM m f g) : ∀ x, 0 ≤ x → x < m.On.Objects → ∀ y, 0 ≤ y → y < m.On.Objects → IdM m x y := by
  intro x x0 x1 y y0 y1
  have hS := t.cat.1.shp
  have ix := hS.id_in x x0 x1
  have iy := hS.id_in y y0 y1
  have fx := hS.id_from x x0 x1
  have fy := hS.id_from y y0 y1
  obtain ⟨h1, h2⟩ := h _ ix.1 ix.2 _ iy.1 iy.2
  have h3 := h2 (by unfold Idn; rw [fx]) (by unfold Idn; rw [fy])
  unfold Idn at h3
  unfold IdM
  rw [← h3, h1.1, fx, fy]
theorem one_of {m : XMonoidal} (h : IsTen m) : ∀ f, 0 ≤ f → f < (m.On.From.length : Int) → ∀ g, 0 ≤ g → g < (m.On.From.length : Int) → OneM m f g := by
  intro f f0 f1 g g0 g1
  have hS := h.t.cat.1.shp
  have ff := hS.from_in f f0 f1
  have fg := hS.from_in g g0 g1
  have e := h.e f f0 f1 g g0 g1
  refine ⟨e, fun hf hg => ?_⟩
  have := h.i _ ff.1 ff.2 _ fg.1 fg.2
  unfold Idn at *
  unfold IdM at this
  rw [hf, hg] at this
  rw [e.1, this]

theorem interchanges_eq {m : XMonoidal} (t : TabM m) :
    M.impl_Monoidal_interchanges m = some (decide (∀ f, 0 ≤ f → f < (m.On.From.length : Int) → ∀ h, 0 ≤ h → h < (m.On.From.length : Int) → ∀ g, 0 ≤ g → g < (m.On.From.length : Int) → ∀ k, 0 ≤ k → k < (m.On.From.length : Int) → IntM m f h g k)) := by
  apply Ret.ask
  have hS := t.cat.1.shp
  have m40 := hS.m40
  have lto := hS.lto
  have lco := hS.lco
  have so : Small m.On.From := by unfold Small; omega
  have la := t.a.l
  have memO : ∀ {x : Int}, ∀ s ∈ (fil (m.On.From.length : Int) fun s => el m.On.From s == x), 0 ≤ s ∧ s < (m.On.From.length : Int) ∧ el m.On.From s = x := fun s hs => by
    have := fil_mem.1 hs
    exact ⟨this.1, this.2.1, by simpa using this.2.2⟩
  unfold M.impl_Monoidal_interchanges
  simp only [bne_iff_ne, ne_eq]
  refine Ret.all (m.On.From.length : Int) (fun f => ∀ h, 0 ≤ h → h < (m.On.From.length : Int) → ∀ g, 0 ≤ g → g < (m.On.From.length : Int) → ∀ k, 0 ≤ k → k < (m.On.From.length : Int) → IntM m f h g k) (by omega) (by omega) ?_ ?_
  · intro f next f0 f1 hp hn
    rw [if_pos (decide_eq_true f1)]
    have l1 := fil_length_le (m.On.From.length : Int) fun s => el m.On.From s == el m.On.To f
    refine Ret.idx f0 (by omega) (Ret.call (outOf_eq so _) ?_)
    have mem1 := memO (x := el m.On.To f)
    have all1 : ∀ h, 0 ≤ h → h < (m.On.From.length : Int) → el m.On.To f = el m.On.From h → h ∈ (fil (m.On.From.length : Int) fun s => el m.On.From s == el m.On.To f) := fun h j0 j1 e => fil_mem.2 ⟨j0, j1, by simp [e]⟩
    generalize (fil (m.On.From.length : Int) fun s => el m.On.From s == el m.On.To f) = L at l1 mem1 all1 ⊢
    refine Ret.all (L.length : Int) (fun i => ∀ g, 0 ≤ g → g < (m.On.From.length : Int) → ∀ k, 0 ≤ k → k < (m.On.From.length : Int) → IntM m f (el L i) g k) (by omega) (by omega) ?_ ?_
    · intro i next i0 i1 hq hn2
      rw [if_pos (decide_eq_true i1)]
      obtain ⟨j0, j1, e1⟩ := mem1 _ (el_mem i0 i1)
      refine Ret.idx i0 i1 ?_
      generalize el L i = h at j0 j1 e1 hn2 ⊢
      refine Ret.all (m.On.From.length : Int) (fun g => ∀ k, 0 ≤ k → k < (m.On.From.length : Int) → IntM m f h g k) (by omega) (by omega) ?_ ?_
      · intro g next g0 g1 hr hn3
        rw [if_pos (decide_eq_true g1)]
        have l2 := fil_length_le (m.On.From.length : Int) fun s => el m.On.From s == el m.On.To g
        refine Ret.idx g0 (by omega) (Ret.call (outOf_eq so _) ?_)
        have mem2 := memO (x := el m.On.To g)
        have all2 : ∀ h, 0 ≤ h → h < (m.On.From.length : Int) → el m.On.To g = el m.On.From h → h ∈ (fil (m.On.From.length : Int) fun s => el m.On.From s == el m.On.To g) := fun h j0 j1 e => fil_mem.2 ⟨j0, j1, by simp [e]⟩
        generalize (fil (m.On.From.length : Int) fun s => el m.On.From s == el m.On.To g) = L2 at l2 mem2 all2 ⊢
        refine Ret.all (L2.length : Int) (fun i => IntM m f h g (el L2 i)) (by omega) (by omega) ?_ ?_
        · intro i2 next b0 b1 hs hn4
          rw [if_pos (decide_eq_true b1)]
          obtain ⟨k0, k1, e2⟩ := mem2 _ (el_mem b0 b1)
          refine Ret.idx b0 b1 ?_
          generalize el L2 i2 = k at k0 k1 e2 hn4 ⊢
          have c1 := hS.yes f h f0 f1 j0 j1 e1.symm
          have c2 := hS.yes g k g0 g1 k0 k1 e2.symm
          have a1 := t.a.inn ⟨f0, f1⟩ ⟨g0, g1⟩
          have a2 := t.a.inn ⟨j0, j1⟩ ⟨k0, k1⟩
          have r1 := (t.a.r _ c1.1 c1.2).1
          have rf := hS.row f f0 f1
          have rg := hS.row g g0 g1
          have ra1 := hS.row _ a1.1 a1.2
          refine Ret.call (then_eq f0 (by omega) j0 (by omega)) (Ret.idx c1.1 (by omega) (Ret.call (then_eq g0 (by omega) k0 (by omega)) (Ret.idx c2.1 (by omega) ?_)))
          refine t.a.idx ⟨f0, f1⟩ ⟨g0, g1⟩ (t.a.idx ⟨j0, j1⟩ ⟨k0, k1⟩ (Ret.call (then_eq a1.1 (by omega) a2.1 (by omega)) ?_))
          exact Ret.ite (fun hd => Ret.some ⟨(fun h => by cases h), fun e => absurd (e f f0 f1 h j0 j1 g g0 g1 k k0 k1 e1.symm e2.symm) hd⟩) (fun hd => hn4 fun _ _ => Decidable.not_not.1 hd)
        · intro next hs
          rw [if_neg (by simp)]
          refine hn3 fun k k0 k1 ea eb => ?_
          obtain ⟨i2, b0, b1, e⟩ := mem_el (all2 k k0 k1 eb)
          have := hs i2 b0 b1
          rw [e] at this
          exact this ea eb
      · intro next hr
        rw [if_neg (by simp)]
        exact hn2 hr
    · intro next hq
      rw [if_neg (by simp)]
      refine hn fun h j0 j1 g g0 g1 k k0 k1 ea eb => ?_
      obtain ⟨i, b0, b1, e⟩ := mem_el (all1 h j0 j1 ea)
      have := hq i b0 b1 g g0 g1 k k0 k1
      rw [e] at this
      exact this ea eb
  · intro next hp
    rw [if_neg (by simp)]
    exact Ret.some ⟨fun _ => hp, fun _ => rfl⟩

theorem isMonoidal_eq {m : XMonoidal} (sm : SmallO m) : M.impl_Monoidal_isMonoidal m = some (decide (IsTen m)) := by
  apply Ret.ask
  unfold M.impl_Monoidal_isMonoidal M.impl_Category_arrows
  simp only [Option.bind_some]
  refine Ret.call (isCategory_eq sm.s1) (Ret.ite (fun h1 => ?_) (fun h => Ret.some ⟨(fun h => by cases h), fun e => absurd (decide_eq_true e.t.cat) h⟩))
  have h1 := of_decide_eq_true h1
  have hS := h1.1.shp
  have m40 := hS.m40
  have n0 := hS.n0
  have n8 := hS.n8
  have lid := hS.lid
  have lto := hS.lto
  have lco := hS.lco
  refine Ret.call (inR_eq n0 (by omega)) (Ret.ite (fun h2 => ?_) (fun h => Ret.some ⟨(fun h => by cases h), fun e => absurd (decide_eq_true e.t.u) h⟩))
  have h2 := of_decide_eq_true h2
  refine Ret.call (isTable_eq sm.s2 sm.s3 (by omega) (by omega)) (Ret.ite (fun h3 => ?_) (fun h => Ret.some ⟨(fun h => by cases h), fun e => absurd (decide_eq_true e.t.o) h⟩))
  have h3 := of_decide_eq_true h3
  refine Ret.call (isTable_eq sm.s4 sm.s5 (by omega) (by omega)) (Ret.ite (fun h4 => ?_) (fun h => Ret.some ⟨(fun h => by cases h), fun e => absurd (decide_eq_true e.t.a) h⟩))
  have h4 := of_decide_eq_true h4
  have t : TabM m := ⟨h1, h2, h3, h4⟩
  have la := t.a.l
  have lo := t.o.l
  refine Ret.all (m.Arrows.length : Int) (fun f => ∀ g, 0 ≤ g → g < (m.On.From.length : Int) → OneM m f g) (by omega) (by omega) ?_ ?_
  · intro f next f0 f1' hp hn
    rw [if_pos (decide_eq_true f1')]
    have f1 : f < (m.On.From.length : Int) := by omega
    have rf := (t.a.r f f0 f1).1
    refine Ret.idx f0 (by omega) (Ret.all ((el m.Arrows f).length : Int) (fun g => OneM m f g) (by omega) (by omega) ?_ ?_)
    · intro g next g0 g1' hq hn2
      rw [if_pos (decide_eq_true g1')]
      have g1 : g < (m.On.From.length : Int) := by omega
      have a := t.a.inn ⟨f0, f1⟩ ⟨g0, g1⟩
      have ff := hS.from_in f f0 f1
      have fg := hS.from_in g g0 g1
      have tf := hS.to_in f f0 f1
      have tg := hS.to_in g g0 g1
      have r1 := (t.o.r _ ff.1 ff.2).1
      have r2 := (t.o.r _ tf.1 tf.2).1
      refine Ret.idx g0 (by omega) (Ret.call (ends_eq a.1 a.2 (show tb m.Arrows f g < (m.On.To.length : Int) by omega)) (Ret.idx f0 f1 (Ret.idx ff.1 (by omega) (Ret.idx g0 g1 (Ret.idx fg.1 (by omega) (Ret.idx f0 (by omega) (Ret.idx tf.1 (by omega) (Ret.idx g0 (by omega) (Ret.idx tg.1 (by omega) ?_)))))))))
      refine Ret.ite (fun hb => Ret.some ⟨(fun h => by cases h), fun e => ?_⟩) (fun hb => ?_)
      · have := e.e f f0 f1 g g0 g1
        unfold EndM at this
        simp [this.1, this.2] at hb
      have he : EndM m f g := by
        unfold EndM
        simpa using hb
      refine Ret.call (isIdentity_eq hS f0 f1) (Ret.ite (fun hi => ?_) (fun hi => hn2 ⟨he, fun x => absurd (decide_eq_true x) hi⟩))
      refine Ret.call (isIdentity_eq hS g0 g1) (Ret.ite (fun hj => ?_) (fun hj => hn2 ⟨he, fun _ x => absurd (decide_eq_true x) hj⟩))
      refine Ret.call (isIdentity_eq hS a.1 a.2) (Ret.ite (fun hk => hn2 ⟨he, fun _ _ => of_decide_eq_true hk⟩) (fun hk => Ret.some ⟨(fun h => by cases h), fun e => ?_⟩))
      exact absurd (decide_eq_true ((one_of e f f0 f1 g g0 g1).2 (of_decide_eq_true hi) (of_decide_eq_true hj))) hk
    · intro next hq
      rw [if_neg (by simp)]
      exact hn fun g g0 g1 => hq g g0 (by omega)
  intro next hp
  rw [if_neg (by simp)]
  have h5 : ∀ f, 0 ≤ f → f < (m.On.From.length : Int) → ∀ g, 0 ≤ g → g < (m.On.From.length : Int) → OneM m f g := fun f f0 f1 => hp f f0 (by omega)
  have he : ∀ f, 0 ≤ f → f < (m.On.From.length : Int) → ∀ g, 0 ≤ g → g < (m.On.From.length : Int) → EndM m f g := fun f f0 f1 g g0 g1 => (h5 f f0 f1 g g0 g1).1
  refine Ret.call (isAssociative_eq n0 (by omega) h3 h2) (Ret.ite (fun h6 => ?_) (fun h => Ret.some ⟨(fun h => by cases h), fun e => absurd (decide_eq_true e.wo) h⟩))
  have h6 := of_decide_eq_true h6
  have iu := hS.id_in _ h2.1 h2.2
  refine Ret.idx h2.1 (by omega) (Ret.call (isAssociative_eq (by omega) (by omega) h4 iu) (Ret.ite (fun h7 => ?_) (fun h => Ret.some ⟨(fun h => by cases h), fun e => absurd (decide_eq_true e.wa) h⟩)))
  have h7 := of_decide_eq_true h7
  refine Ret.call (interchanges_eq t) (Ret.some ?_)
  rw [decide_eq_true_iff]
  exact ⟨fun h9 => ⟨t, he, h6, h7, ids_of t h5, h9⟩, fun e => e.c⟩

/-! ### the functor behind an object -/
def behF (m : XMonoidal) (y : Int) : XFunctor := ⟨m.On, m.On, tab m.On.Objects fun x => mO m x y, tab (m.On.From.length : Int) fun f => mA m f (el m.On.Identity y)⟩
theorem behF_small {m : XMonoidal} (sm : SmallO m) (h : IsTen m) (y : Int) : SmallF (behF m y) := by
  have m40 := h.t.cat.1.shp.m40
  have n8 := h.t.cat.1.shp.n8
  refine ⟨sm.s1, sm.s1, ?_, ?_⟩
  · show ((tab m.On.Objects fun x => mO m x y).length : Int) ≤ _
    rw [tab_length]; omega
  · show ((tab (m.On.From.length : Int) fun f => mA m f (el m.On.Identity y)).length : Int) ≤ _
    rw [tab_length]; omega
theorem l35Behind_eq {m : XMonoidal} (sm : SmallO m) (h : IsTen m) {y : Int} (y0 : 0 ≤ y) (y1 : y < m.On.Objects) : M.spec_l35Behind m y = some (behF m y) := by
  apply Ret.eq
  have hS := h.t.cat.1.shp
  have m40 := hS.m40
  have n0 := hS.n0
  have n8 := hS.n8
  have lid := hS.lid
  have lo := h.t.o.l
  have la := h.t.a.l
  have iy := hS.id_in y y0 y1
  unfold M.spec_l35Behind
  refine push_loop (n := m.On.Objects) (F := fun x => mO m x y) n0 (by omega) ?_ ?_
  · intro i next i0 i1 hl hn
    dsimp only
    rw [if_pos (decide_eq_true (by omega))]
    refine h.t.o.idx ⟨i0, i1⟩ ⟨y0, y1⟩ (Ret.chk ?_ hn)
    unfold lim; simp only [List.length_cons, List.length_nil]; omega
  intro next
  dsimp only
  rw [if_neg (fun x => absurd (of_decide_eq_true x) (by omega))]
  refine push_loop (n := (m.On.From.length : Int)) (F := fun f => mA m f (el m.On.Identity y)) (by omega) (by omega) ?_ ?_
  · intro i next i0 i1 hl hn
    dsimp only
    rw [if_pos (decide_eq_true (by omega))]
    have r := (h.t.a.r i i0 i1).1
    refine Ret.idx i0 (by omega) (Ret.idx y0 (by omega) (Ret.idx iy.1 (by omega) (Ret.chk ?_ hn)))
    unfold lim; simp only [List.length_cons, List.length_nil]; omega
  · intro next
    dsimp only
    rw [if_neg (fun x => absurd (of_decide_eq_true x) (by omega))]
    have sb := behF_small sm h y
    have e : M.spec_l06Make m.On m.On (tab m.On.Objects fun x => mO m x y) (tab (m.On.From.length : Int) fun f => mA m f (el m.On.Identity y)) = some (behF m y) := l06Make_eq sm.s1 sm.s1 sb.s3 sb.s4
    rw [e]
    exact Ret.some rfl
theorem column_eq {n : Int} {t : List (List Int)} (n0 : 0 ≤ n) (n1 : n ≤ 1024) (h : Tbl n t) {y : Int} (y0 : 0 ≤ y) (y1 : y < n) : M.impl_column t y = some (tab n fun i => tb t i y) := by
  apply Ret.eq
  have l := h.l
  unfold M.impl_column
  refine push_loop (n := n) (F := fun i => tb t i y) n0 (by omega) ?_ ?_
  · intro i next i0 i1 hl hn
    dsimp only
    rw [if_pos (decide_eq_true (by omega))]
    refine h.idx ⟨i0, i1⟩ ⟨y0, y1⟩ (Ret.chk ?_ hn)
    unfold lim; simp only [List.length_cons, List.length_nil]; omega
  · intro next
    dsimp only
    rw [if_neg (fun x => absurd (of_decide_eq_true x) (by omega))]
    exact Ret.some rfl
theorem behind_eq {m : XMonoidal} (sm : SmallO m) (h : IsTen m) {y : Int} (y0 : 0 ≤ y) (y1 : y < m.On.Objects) : M.impl_Monoidal_behind m y = some (behF m y) := by
  have hS := h.t.cat.1.shp
  have m40 := hS.m40
  have n0 := hS.n0
  have n8 := hS.n8
  have lid := hS.lid
  have iy := hS.id_in y y0 y1
  have sb := behF_small sm h y
  unfold M.impl_Monoidal_behind
  rw [column_eq n0 (by omega) h.t.o y0 y1]
  show (idx m.On.Identity y).bind _ = _
  rw [idx_el y0 (by omega)]
  show (M.impl_column m.Arrows (el m.On.Identity y)).bind _ = _
  rw [column_eq (by omega) (by omega) h.t.a iy.1 iy.2]
  show (M.impl_functor m.On m.On (tab m.On.Objects fun x => mO m x y) (tab (m.On.From.length : Int) fun f => mA m f (el m.On.Identity y))).bind _ = _
  have e : M.impl_functor m.On m.On (tab m.On.Objects fun x => mO m x y) (tab (m.On.From.length : Int) fun f => mA m f (el m.On.Identity y)) = some (behF m y) := functor_eq sm.s1 sm.s1 sb.s3 sb.s4
  rw [e]; rfl

theorem behF_fun {m : XMonoidal} (h : IsTen m) {y : Int} (y0 : 0 ≤ y) (y1 : y < m.On.Objects) : IsFun (behF m y) := by
  have hS := h.t.cat.1.shp
  have n0 := hS.n0
  have iy := hS.id_in y y0 y1
  have fy := hS.id_from y y0 y1
  have ty := hS.id_to y y0 y1
  have eo : ∀ x, 0 ≤ x → x < m.On.Objects → el (behF m y).Objects x = mO m x y := fun x x0 x1 => by
    show el (tab m.On.Objects fun x => mO m x y) x = _
    rw [el_tab x0 x1]
  have ea : ∀ f, 0 ≤ f → f < (m.On.From.length : Int) → el (behF m y).Arrows f = mA m f (el m.On.Identity y) := fun f f0 f1 => by
    show el (tab (m.On.From.length : Int) fun f => mA m f (el m.On.Identity y)) f = _
    rw [el_tab f0 f1]
  have lo : ((behF m y).Objects.length : Int) = m.On.Objects := by
    show ((tab m.On.Objects fun x => mO m x y).length : Int) = _
    exact tab_len' _ _ n0
  have la : ((behF m y).Arrows.length : Int) = (m.On.From.length : Int) := by
    show ((tab (m.On.From.length : Int) fun f => mA m f (el m.On.Identity y)).length : Int) = _
    exact tab_len' _ _ (by omega)
  have cyy : cmp m.On (el m.On.Identity y) (el m.On.Identity y) = el m.On.Identity y := by
    have := (h.t.cat.2.1 _ iy.1 iy.2).1
    rwa [fy] at this
  refine ⟨h.t.cat, h.t.cat, lo, la, fun x x0 x1 => ?_, fun f f0 f1 => ?_, fun f f0 f1 => ?_, fun f f0 f1 => ?_, fun x x0 x1 => ?_, fun f g f0 f1 g0 g1 e => ?_⟩
  · rw [lo] at x1
    rw [eo x x0 x1]
    exact h.t.o.inn ⟨x0, x1⟩ ⟨y0, y1⟩
  · rw [la] at f1
    rw [ea f f0 f1]
    exact h.t.a.inn ⟨f0, f1⟩ iy
  · have ff := hS.from_in f f0 f1
    rw [ea f f0 f1, show (behF m y).Target = m.On from rfl, show (behF m y).Source = m.On from rfl, eo _ ff.1 ff.2, (h.e f f0 f1 _ iy.1 iy.2).1, fy]
  · have ff := hS.to_in f f0 f1
    rw [ea f f0 f1, show (behF m y).Target = m.On from rfl, show (behF m y).Source = m.On from rfl, eo _ ff.1 ff.2, (h.e f f0 f1 _ iy.1 iy.2).2, ty]
  · have ix := hS.id_in x x0 x1
    rw [show (behF m y).Source = m.On from rfl, show (behF m y).Target = m.On from rfl, ea _ ix.1 ix.2, eo x x0 x1]
    exact h.i x x0 x1 y y0 y1
  · have c := hS.yes f g f0 f1 g0 g1 e
    rw [show (behF m y).Source = m.On from rfl, show (behF m y).Target = m.On from rfl, ea _ c.1 c.2, ea f f0 f1, ea g g0 g1]
    have := h.c f f0 f1 g g0 g1 _ iy.1 iy.2 _ iy.1 iy.2 e (by rw [ty, fy])
    rwa [cyy] at this
end Go.Gx
