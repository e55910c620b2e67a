/- Laid together: part 0. -/
import Derived.Test.YtknmijgiefkijaaDoorGxE2
import Derived.Test.YtknmijgiefkijaaDoorGxEM0
/- Plain laws of categories and functors: what the models of spec and impl answer. -/
namespace Go.Gx

instance : Inhabited XCategory := ⟨⟨0, [], [], [], []⟩⟩

abbrev Small {α : Type} (l : List α) : Prop := (l.length : Int) ≤ 1048576
abbrev Fits {α : Type} (l : List α) : Prop := (l.length : Int) ≤ 9223372036854775807

structure FitsC (c : XCategory) : Prop where
  f1 : Fits c.From
  f2 : Fits c.To
  f3 : Fits c.Identity
  f4 : Fits c.Composites
  f5 : ∀ r ∈ c.Composites, Fits r

structure SmallC (c : XCategory) : Prop where
  s1 : Small c.From
  s2 : Small c.To
  s3 : Small c.Identity
  s4 : Small c.Composites
  s5 : ∀ r ∈ c.Composites, Small r

structure FitsF (f : XFunctor) : Prop where
  f1 : FitsC f.Source
  f2 : FitsC f.Target
  f3 : Fits f.Objects
  f4 : Fits f.Arrows

structure SmallF (f : XFunctor) : Prop where
  s1 : SmallC f.Source
  s2 : SmallC f.Target
  s3 : Small f.Objects
  s4 : Small f.Arrows

/-! ### sizes -/

theorem szInt64S_r {l : List Int} {n : Int} (h0 : 0 ≤ n) (h1 : n ≤ 1048576) (hl : Fits l) :
    Ret (M.laws_szInt64S l n) fun r => (r < 0 ∧ r = -1) ∨ (0 ≤ r ∧ r ≤ n ∧ Small l) := by
  unfold M.laws_szInt64S
  rw [wrap_in (by omega) (by omega)]
  simp only [decide_eq_true_eq]
  (repeat' (first | with_reducible refine Ret.pos ‹_› ?_ | with_reducible refine Ret.neg ‹_› ?_ | with_reducible refine Ret.neg (Int.lt_irrefl _) ?_ | with_reducible refine Ret.ite (fun _ => ?_) (fun _ => ?_) | with_reducible refine Ret.idx ?_ ?_ ?_ | with_reducible refine Ret.chk ?_ ?_ | with_reducible refine hn3 ?_ | with_reducible refine hn2 ?_ | with_reducible refine hn1 ?_ | with_reducible refine hn3 _ ?_ | with_reducible refine hn2 _ ?_ | with_reducible refine hn1 _ ?_ | with_reducible refine Ret.some ?_))
  all_goals (try ((fail_if_success (with_reducible refine Ret.probe ?_)); grind))

/-! ### copies -/

/-- What a copying loop has written after i rounds. -/
theorem set_copy {α : Type} [Inhabited α] {l : List α} {z : α} {i : Int} (h0 : 0 ≤ i) (_ : i < (l.length : Int)) :
    (tab (l.length : Int) fun j => if j < i then el l j else z).set i.toNat (el l i) = tab (l.length : Int) fun j => if j < i + 1 then el l j else z := by
  rw [set_tab h0]
  apply tab_congr
  intro j hj0 hj1
  grind

theorem toInt64S_eq {l : List Int} (h : Small l) : M.laws_toInt64S l = some l := by
  apply Ret.eq
  unfold M.laws_toInt64S
  refine Ret.chk ⟨by omega, by unfold lim; omega⟩ ?_
  refine Ret.acc (l.length : Int) (fun i a => a = tab (l.length : Int) fun j => if j < i then el l j else 0) (by omega) (by omega) ?_ ?_ ?_
  · rw [rep_tab]; apply tab_congr; intro j h0 h1; rw [if_neg (by omega)]
  · rintro i a next hi0 hi1 rfl hn1
    dsimp only
    simp only [decide_eq_true_eq]
    have := set_copy (z := (0 : Int)) hi0 hi1
    (repeat' (first | with_reducible refine Ret.pos ‹_› ?_ | with_reducible refine Ret.neg ‹_› ?_ | with_reducible refine Ret.neg (Int.lt_irrefl _) ?_ | with_reducible refine Ret.ite (fun _ => ?_) (fun _ => ?_) | with_reducible refine Ret.idx ?_ ?_ ?_ | with_reducible refine Ret.chk ?_ ?_ | with_reducible refine hn3 ?_ | with_reducible refine hn2 ?_ | with_reducible refine hn1 ?_ | with_reducible refine hn3 _ ?_ | with_reducible refine hn2 _ ?_ | with_reducible refine hn1 _ ?_ | with_reducible refine Ret.some ?_))
    all_goals (try ((fail_if_success (with_reducible refine Ret.probe ?_)); grind [tab_length]))
  · rintro a next rfl
    dsimp only
    simp only [decide_eq_true_eq]
    (repeat' (first | with_reducible refine Ret.pos ‹_› ?_ | with_reducible refine Ret.neg ‹_› ?_ | with_reducible refine Ret.neg (Int.lt_irrefl _) ?_ | with_reducible refine Ret.ite (fun _ => ?_) (fun _ => ?_) | with_reducible refine Ret.idx ?_ ?_ ?_ | with_reducible refine Ret.chk ?_ ?_ | with_reducible refine hn3 ?_ | with_reducible refine hn2 ?_ | with_reducible refine hn1 ?_ | with_reducible refine hn3 _ ?_ | with_reducible refine hn2 _ ?_ | with_reducible refine hn1 _ ?_ | with_reducible refine Ret.some ?_))
    conv => rhs; rw [← tab_el l]
    apply tab_congr; intro j h0 h1; rw [if_pos h1]

/-! ### equality -/

theorem eqInt64S_refl {l : List Int} (h : Small l) : M.laws_eqInt64S l l = some true := by
  apply Ret.eq
  unfold M.laws_eqInt64S
  simp only [bne_self_eq_false, Bool.false_eq_true, if_false, decide_eq_true_eq]
  refine Ret.all (l.length : Int) (fun _ => True) (by omega) (by omega) ?_ ?_
  · intro i next hi0 hi1 hp hn1
    (repeat' (first | with_reducible refine Ret.pos ‹_› ?_ | with_reducible refine Ret.neg ‹_› ?_ | with_reducible refine Ret.neg (Int.lt_irrefl _) ?_ | with_reducible refine Ret.ite (fun _ => ?_) (fun _ => ?_) | with_reducible refine Ret.idx ?_ ?_ ?_ | with_reducible refine Ret.chk ?_ ?_ | with_reducible refine hn3 ?_ | with_reducible refine hn2 ?_ | with_reducible refine hn1 ?_ | with_reducible refine hn3 _ ?_ | with_reducible refine hn2 _ ?_ | with_reducible refine hn1 _ ?_ | with_reducible refine Ret.some ?_))
    all_goals (try ((fail_if_success (with_reducible refine Ret.probe ?_)); grind))
  · intro next hp
    (repeat' (first | with_reducible refine Ret.pos ‹_› ?_ | with_reducible refine Ret.neg ‹_› ?_ | with_reducible refine Ret.neg (Int.lt_irrefl _) ?_ | with_reducible refine Ret.ite (fun _ => ?_) (fun _ => ?_) | with_reducible refine Ret.idx ?_ ?_ ?_ | with_reducible refine Ret.chk ?_ ?_ | with_reducible refine hn3 ?_ | with_reducible refine hn2 ?_ | with_reducible refine hn1 ?_ | with_reducible refine hn3 _ ?_ | with_reducible refine hn2 _ ?_ | with_reducible refine hn1 _ ?_ | with_reducible refine Ret.some ?_))
    all_goals (try ((fail_if_success (with_reducible refine Ret.probe ?_)); grind))

end Go.Gx

/- Plain laws: which tables are categories, and which are functors, by spec and by impl alike. -/
namespace Go.Gx
open Classical
set_option maxHeartbeats 4000000

/-! ### ranges -/

abbrev In (n : Int) (l : List Int) : Prop := ∀ i, 0 ≤ i → i < (l.length : Int) → 0 ≤ el l i ∧ el l i < n

theorem l01In_eq (a b c : Int) : M.spec_l01In a b c = some (decide (b ≤ a) && decide (a ≤ c)) := by
  unfold M.spec_l01In
  by_cases h : b ≤ a <;> simp [h]
theorem inRange_eq (a b c : Int) : M.impl_inRange a b c = some (decide (b ≤ a) && decide (a ≤ c)) := by
  unfold M.impl_inRange
  by_cases h : b ≤ a <;> simp [h]

theorem l01Map_eq {n : Int} {l : List Int} (h : Small l) : M.spec_l01Map n l = some (decide (In n l)) := by
  apply Ret.ask
  unfold M.spec_l01Map
  simp only [decide_eq_true_eq]
  refine Ret.all (l.length : Int) (fun i => 0 ≤ el l i ∧ el l i < n) (by omega) (by omega) ?_ ?_
  · intro i next hi0 hi1 hp hn1
    (repeat' (first | with_reducible refine Ret.pos ‹_› ?_ | with_reducible refine Ret.neg ‹_› ?_ | with_reducible refine Ret.neg (Int.lt_irrefl _) ?_ | with_reducible refine Ret.ite (fun _ => ?_) (fun _ => ?_) | with_reducible refine Ret.idx ?_ ?_ ?_ | with_reducible refine Ret.chk ?_ ?_ | with_reducible refine hn3 ?_ | with_reducible refine hn2 ?_ | with_reducible refine hn1 ?_ | with_reducible refine hn3 _ ?_ | with_reducible refine hn2 _ ?_ | with_reducible refine hn1 _ ?_ | with_reducible refine Ret.some ?_))
    all_goals (try ((fail_if_success (with_reducible refine Ret.probe ?_)); grind))
  · intro next hp
    (repeat' (first | with_reducible refine Ret.pos ‹_› ?_ | with_reducible refine Ret.neg ‹_› ?_ | with_reducible refine Ret.neg (Int.lt_irrefl _) ?_ | with_reducible refine Ret.ite (fun _ => ?_) (fun _ => ?_) | with_reducible refine Ret.idx ?_ ?_ ?_ | with_reducible refine Ret.chk ?_ ?_ | with_reducible refine hn3 ?_ | with_reducible refine hn2 ?_ | with_reducible refine hn1 ?_ | with_reducible refine hn3 _ ?_ | with_reducible refine hn2 _ ?_ | with_reducible refine hn1 _ ?_ | with_reducible refine Ret.some ?_))
    all_goals (try ((fail_if_success (with_reducible refine Ret.probe ?_)); grind))

theorem within_eq {n : Int} {l : List Int} (h : Small l) (h0 : -4611686018427387904 ≤ n) (h1 : n ≤ 4611686018427387904) : M.impl_within l n = some (decide (In n l)) := by
  apply Ret.ask
  unfold M.impl_within
  rw [wrap_in (by omega) (by omega)]
  simp only [decide_eq_true_eq]
  refine Ret.all (l.length : Int) (fun i => 0 ≤ el l i ∧ el l i < n) (by omega) (by omega) ?_ ?_
  · intro i next hi0 hi1 hp hn1
    (repeat' (first | with_reducible refine Ret.pos ‹_› ?_ | with_reducible refine Ret.neg ‹_› ?_ | with_reducible refine Ret.neg (Int.lt_irrefl _) ?_ | with_reducible refine Ret.ite (fun _ => ?_) (fun _ => ?_) | with_reducible refine Ret.idx ?_ ?_ ?_ | with_reducible refine Ret.chk ?_ ?_ | with_reducible refine hn3 ?_ | with_reducible refine hn2 ?_ | with_reducible refine hn1 ?_ | with_reducible refine hn3 _ ?_ | with_reducible refine hn2 _ ?_ | with_reducible refine hn1 _ ?_ | with_reducible refine Ret.call (inRange_eq _ _ _) ?_ | with_reducible refine Ret.some ?_))
    all_goals (try ((fail_if_success (with_reducible refine Ret.probe ?_)); grind))
  · intro next hp
    (repeat' (first | with_reducible refine Ret.pos ‹_› ?_ | with_reducible refine Ret.neg ‹_› ?_ | with_reducible refine Ret.neg (Int.lt_irrefl _) ?_ | with_reducible refine Ret.ite (fun _ => ?_) (fun _ => ?_) | with_reducible refine Ret.idx ?_ ?_ ?_ | with_reducible refine Ret.chk ?_ ?_ | with_reducible refine hn3 ?_ | with_reducible refine hn2 ?_ | with_reducible refine hn1 ?_ | with_reducible refine hn3 _ ?_ | with_reducible refine hn2 _ ?_ | with_reducible refine hn1 _ ?_ | with_reducible refine Ret.call (inRange_eq _ _ _) ?_ | with_reducible refine Ret.some ?_))
    all_goals (try ((fail_if_success (with_reducible refine Ret.probe ?_)); grind))

/-! ### categories -/

/-- The composite of i and j. -/
abbrev cmp (c : XCategory) (i j : Int) : Int := el (el c.Composites i) j

def CompOk (c : XCategory) (i j : Int) : Prop :=
  (el c.To i ≠ el c.From j → cmp c i j = -1) ∧
  (el c.To i = el c.From j → 0 ≤ cmp c i j ∧ cmp c i j < (c.From.length : Int) ∧ el c.From (cmp c i j) = el c.From i ∧ el c.To (cmp c i j) = el c.To j)

def Shape (c : XCategory) : Prop :=
  0 ≤ c.Objects ∧ c.Objects ≤ 8 ∧ (c.From.length : Int) ≤ 40 ∧ (c.To.length : Int) = (c.From.length : Int) ∧ (c.Identity.length : Int) = c.Objects ∧
  (c.Composites.length : Int) = (c.From.length : Int) ∧ In c.Objects c.From ∧ In c.Objects c.To ∧ In (c.From.length : Int) c.Identity ∧
  (∀ i, 0 ≤ i → i < c.Objects → el c.From (el c.Identity i) = i ∧ el c.To (el c.Identity i) = i) ∧
  (∀ i, 0 ≤ i → i < (c.From.length : Int) → ((el c.Composites i).length : Int) = (c.From.length : Int) ∧ ∀ j, 0 ≤ j → j < (c.From.length : Int) → CompOk c i j)

theorem ends_eq {c : XCategory} {y : Int} (h0 : 0 ≤ y) (h1 : y < (c.From.length : Int)) (h2 : y < (c.To.length : Int)) : M.impl_Category_ends c y = some ⟨el c.From y, el c.To y⟩ := by
  unfold M.impl_Category_ends
  rw [idx_el h0 h1, idx_el h0 h2]; rfl

end Go.Gx

/- Plain laws: the laws of a category, and functors. -/
namespace Go.Gx
open Classical
set_option maxHeartbeats 4000000

def NoFault (c : XCategory) : Prop :=
  (∀ f, 0 ≤ f → f < (c.From.length : Int) → cmp c (el c.Identity (el c.From f)) f = f ∧ cmp c f (el c.Identity (el c.To f)) = f) ∧
  (∀ f g h, 0 ≤ f → f < (c.From.length : Int) → 0 ≤ g → g < (c.From.length : Int) → 0 ≤ h → h < (c.From.length : Int) → el c.To f = el c.From g → el c.To g = el c.From h →
    cmp c (cmp c f g) h = cmp c f (cmp c g h))

/-- The parts of a shape, ready to be used. -/
structure Shp (c : XCategory) : Prop where
  n0 : 0 ≤ c.Objects
  n8 : c.Objects ≤ 8
  m40 : (c.From.length : Int) ≤ 40
  lto : (c.To.length : Int) = (c.From.length : Int)
  lid : (c.Identity.length : Int) = c.Objects
  lco : (c.Composites.length : Int) = (c.From.length : Int)
  from_in : ∀ i, 0 ≤ i → i < (c.From.length : Int) → 0 ≤ el c.From i ∧ el c.From i < c.Objects
  to_in : ∀ i, 0 ≤ i → i < (c.From.length : Int) → 0 ≤ el c.To i ∧ el c.To i < c.Objects
  id_in : ∀ i, 0 ≤ i → i < c.Objects → 0 ≤ el c.Identity i ∧ el c.Identity i < (c.From.length : Int)
  id_from : ∀ i, 0 ≤ i → i < c.Objects → el c.From (el c.Identity i) = i
  id_to : ∀ i, 0 ≤ i → i < c.Objects → el c.To (el c.Identity i) = i
  row : ∀ i, 0 ≤ i → i < (c.From.length : Int) → ((el c.Composites i).length : Int) = (c.From.length : Int)
  no : ∀ i j, 0 ≤ i → i < (c.From.length : Int) → 0 ≤ j → j < (c.From.length : Int) → el c.To i ≠ el c.From j → cmp c i j = -1
  yes : ∀ i j, 0 ≤ i → i < (c.From.length : Int) → 0 ≤ j → j < (c.From.length : Int) → el c.To i = el c.From j → 0 ≤ cmp c i j ∧ cmp c i j < (c.From.length : Int)
  cfrom : ∀ i j, 0 ≤ i → i < (c.From.length : Int) → 0 ≤ j → j < (c.From.length : Int) → el c.To i = el c.From j → el c.From (cmp c i j) = el c.From i
  cto : ∀ i j, 0 ≤ i → i < (c.From.length : Int) → 0 ≤ j → j < (c.From.length : Int) → el c.To i = el c.From j → el c.To (cmp c i j) = el c.To j

theorem Shape.shp {c : XCategory} (h : Shape c) : Shp c := by
  obtain ⟨h1, h2, h3, h4, h5, h6, h7, h8, h9, h10, h11⟩ := h
  refine ⟨h1, h2, h3, h4, h5, h6, h7, fun i h0 hi => h8 i h0 (by omega), fun i h0 hi => h9 i h0 (by omega), fun i h0 hi => (h10 i h0 hi).1, fun i h0 hi => (h10 i h0 hi).2, fun i h0 hi => (h11 i h0 hi).1, ?_, ?_, ?_, ?_⟩
  · intro i j hi0 hi1 hj0 hj1 hne
    exact ((h11 i hi0 hi1).2 j hj0 hj1).1 hne
  · intro i j hi0 hi1 hj0 hj1 he
    have := ((h11 i hi0 hi1).2 j hj0 hj1).2 he
    exact ⟨this.1, this.2.1⟩
  · intro i j hi0 hi1 hj0 hj1 he
    exact (((h11 i hi0 hi1).2 j hj0 hj1).2 he).2.2.1
  · intro i j hi0 hi1 hj0 hj1 he
    exact (((h11 i hi0 hi1).2 j hj0 hj1).2 he).2.2.2

theorem Shp.small {c : XCategory} (h : Shp c) : SmallC c := by
  obtain ⟨h1, h2, h3, h4, h5, h6, h7, h8, h9, h10, h11, h12, h13, h14, h15, h16⟩ := h
  refine ⟨by omega, by omega, by omega, by omega, fun r hr => ?_⟩
  obtain ⟨i, h0, h1', rfl⟩ := mem_el hr
  have := h12 i h0 (by omega)
  omega

theorem then_eq {c : XCategory} {i j : Int} (h0 : 0 ≤ i) (h1 : i < (c.Composites.length : Int)) (h2 : 0 ≤ j) (h3 : j < ((el c.Composites i).length : Int)) : M.impl_Category_then c i j = some (cmp c i j) := by
  unfold M.impl_Category_then
  rw [idx_el h0 h1]
  show (idx (el c.Composites i) j).bind _ = _
  rw [idx_el h2 h3]; rfl

def IsCat (c : XCategory) : Prop := Shape c ∧ NoFault c

end Go.Gx

/- Plain laws: functors. -/
namespace Go.Gx
open Classical
set_option maxHeartbeats 4000000

/-! ### functors -/

structure FunOk (f : XFunctor) : Prop where
  lo : (f.Objects.length : Int) = f.Source.Objects
  la : (f.Arrows.length : Int) = (f.Source.From.length : Int)
  ino : In f.Target.Objects f.Objects
  ina : In (f.Target.From.length : Int) f.Arrows
  afrom : ∀ a, 0 ≤ a → a < (f.Source.From.length : Int) → el f.Target.From (el f.Arrows a) = el f.Objects (el f.Source.From a)
  ato : ∀ a, 0 ≤ a → a < (f.Source.From.length : Int) → el f.Target.To (el f.Arrows a) = el f.Objects (el f.Source.To a)
  aid : ∀ x, 0 ≤ x → x < f.Source.Objects → el f.Arrows (el f.Source.Identity x) = el f.Target.Identity (el f.Objects x)
  acmp : ∀ a b, 0 ≤ a → a < (f.Source.From.length : Int) → 0 ≤ b → b < (f.Source.From.length : Int) → el f.Source.To a = el f.Source.From b →
    el f.Arrows (cmp f.Source a b) = cmp f.Target (el f.Arrows a) (el f.Arrows b)

def IsFun (f : XFunctor) : Prop := IsCat f.Source ∧ IsCat f.Target ∧ FunOk f

end Go.Gx

/- Plain laws: what is marked is held. -/
namespace Go.Gx
set_option maxHeartbeats 1000000

def zeroF : XFunctor := ⟨⟨0, [], [], [], []⟩, ⟨0, [], [], [], []⟩, [], []⟩
end Go.Gx

/- Plain laws: lists after each other; transformations: copies, marks. -/
namespace Go.Gx
open Classical
set_option maxHeartbeats 1000000

def thenL (a b : List Int) : List Int := tab (a.length : Int) fun i => el b (el a i)

structure SmallT (t : XTransformation) : Prop where
  s1 : SmallF t.Source
  s2 : SmallF t.Target
  s3 : Small t.Components

def zeroT : XTransformation := ⟨zeroF, zeroF, []⟩
end Go.Gx

/- Plain laws: sameness; natural transformations; functors after each other. -/
namespace Go.Gx
open Classical
set_option maxHeartbeats 4000000

instance : Inhabited XFunctor := ⟨zeroF⟩
instance : Inhabited XTransformation := ⟨zeroT⟩

/-! ### sizes -/
structure FitsT (t : XTransformation) : Prop where
  f1 : FitsF t.Source
  f2 : FitsF t.Target
  f3 : Fits t.Components
/-! ### the same -/
def Par (f g : XFunctor) : Prop := f.Source = g.Source ∧ f.Target = g.Target

/-! ### lists of functors -/
/-! ### natural transformations -/
def Ends (f g : XFunctor) (c : List Int) : Prop :=
  (c.length : Int) = f.Source.Objects ∧ In (f.Target.From.length : Int) c ∧ ∀ i, 0 ≤ i → i < (c.length : Int) → el f.Target.From (el c i) = el f.Objects i ∧ el f.Target.To (el c i) = el g.Objects i

def ShapeT (t : XTransformation) : Prop := IsFun t.Source ∧ IsFun t.Target ∧ Par t.Source t.Target ∧ Ends t.Source t.Target t.Components

def Sq (f g : XFunctor) (c : List Int) (a : Int) : Prop := cmp f.Target (el f.Arrows a) (el c (el f.Source.To a)) = cmp f.Target (el c (el f.Source.From a)) (el g.Arrows a)

/-- What the indices of a square need. -/
theorem ShapeT.facts {t : XTransformation} (h : ShapeT t) {a : Int} (h0 : 0 ≤ a) (h1 : a < (t.Source.Arrows.length : Int)) :
    a < (t.Source.Source.From.length : Int) ∧ a < (t.Source.Source.To.length : Int) ∧ a < (t.Target.Arrows.length : Int) ∧
    (0 ≤ el t.Source.Arrows a ∧ el t.Source.Arrows a < (t.Source.Target.From.length : Int)) ∧
    (0 ≤ el t.Target.Arrows a ∧ el t.Target.Arrows a < (t.Source.Target.From.length : Int)) ∧
    (0 ≤ el t.Source.Source.To a ∧ el t.Source.Source.To a < (t.Components.length : Int)) ∧
    (0 ≤ el t.Source.Source.From a ∧ el t.Source.Source.From a < (t.Components.length : Int)) ∧
    (0 ≤ el t.Components (el t.Source.Source.To a) ∧ el t.Components (el t.Source.Source.To a) < (t.Source.Target.From.length : Int)) ∧
    (0 ≤ el t.Components (el t.Source.Source.From a) ∧ el t.Components (el t.Source.Source.From a) < (t.Source.Target.From.length : Int)) := by
  obtain ⟨hS, hT, hp, hc⟩ := h
  have k1 := hS.1.1.shp
  have l1 := k1.lto
  have l2 := hS.2.2.la
  have l3 := hT.2.2.la
  have l4 := hT.2.2.ina a h0
  have l5 := hS.2.2.ina a h0 h1
  have p1 : t.Source.Source = t.Target.Source := hp.1
  have p2 : t.Source.Target = t.Target.Target := hp.2
  rw [← p1] at l3
  rw [← p2] at l4
  have m1 := k1.to_in a h0 (by omega)
  have m2 := k1.from_in a h0 (by omega)
  have l6 := hc.1
  have n1 := hc.2.1 (el t.Source.Source.To a) m1.1 (by omega)
  have n2 := hc.2.1 (el t.Source.Source.From a) m2.1 (by omega)
  exact ⟨by omega, by omega, by omega, l5, l4 (by omega), ⟨m1.1, by omega⟩, ⟨m2.1, by omega⟩, n1, n2⟩

def Squares (t : XTransformation) : Prop := ∀ a, 0 ≤ a → a < (t.Source.Arrows.length : Int) → Sq t.Source t.Target t.Components a

def IsNat (t : XTransformation) : Prop := ShapeT t ∧ Squares t

/-! ### functors after each other -/
def thenF (f g : XFunctor) : XFunctor := ⟨f.Source, g.Target, thenL f.Objects g.Objects, thenL f.Arrows g.Arrows⟩
/-- f ends where g begins. -/
structure Meet (f g : XFunctor) : Prop where
  o : In (g.Objects.length : Int) f.Objects
  a : In (g.Arrows.length : Int) f.Arrows

end Go.Gx

/- Plain laws: two functors. -/
namespace Go.Gx
open Classical
set_option maxHeartbeats 1000000

/-- Small lists of small lists. -/
def SmallX (l : List (List Int)) : Prop := Small l ∧ ∀ r ∈ l, Small r
theorem SmallX.nil : SmallX [] := ⟨by simp, by simp⟩
end Go.Gx

/- Plain laws: the first numbers, the identity functor. -/
namespace Go.Gx
open Classical
set_option maxHeartbeats 2000000

end Go.Gx

/- Plain laws: set functors. -/
namespace Go.Gx
open Classical
set_option maxHeartbeats 4000000

structure SmallG (F : XSetFunctor) : Prop where
  s1 : SmallC F.Shape
  s2 : Small F.Sizes
  s3 : Small F.Actions
  s4 : ∀ r ∈ F.Actions, Small r
structure FitsG (F : XSetFunctor) : Prop where
  f1 : FitsC F.Shape
  f2 : Fits F.Sizes
  f3 : Fits F.Actions
  f4 : ∀ r ∈ F.Actions, Fits r
/-! ### which are set functors -/
def ActOk (F : XSetFunctor) (a : Int) : Prop := ((el F.Actions a).length : Int) = el F.Sizes (el F.Shape.From a) ∧ In (el F.Sizes (el F.Shape.To a)) (el F.Actions a)
structure ShpG (F : XSetFunctor) : Prop where
  cat : IsCat F.Shape
  ls : (F.Sizes.length : Int) = F.Shape.Objects
  la : (F.Actions.length : Int) = (F.Shape.From.length : Int)
  siz : ∀ i, 0 ≤ i → i < (F.Sizes.length : Int) → 0 ≤ el F.Sizes i ∧ el F.Sizes i ≤ 16
  act : ∀ a, 0 ≤ a → a < (F.Actions.length : Int) → ActOk F a

/-- The image of e under the action of a. -/
abbrev act (F : XSetFunctor) (a e : Int) : Int := el (el F.Actions a) e
end Go.Gx

/- The law of InverseFunctor. -/
namespace Go.Gx
open Classical
set_option maxHeartbeats 1000000

end Go.Gx

/- The law of HorizontalComposite. -/
namespace Go.Gx
open Classical
set_option maxHeartbeats 1000000

/-- Arrows composed place by place. -/
def cmpL (c : XCategory) (a b : List Int) : List Int := tab (a.length : Int) fun i => cmp c (el a i) (el b i)

/-- Two transformations beside each other. -/
def beside (s t : XTransformation) : XTransformation :=
  ⟨thenF s.Source t.Source, thenF s.Target t.Target, cmpL t.Source.Target (thenL s.Components t.Source.Arrows) (thenL s.Target.Objects t.Components)⟩

structure Next (s t : XTransformation) : Prop where
  m1 : Meet s.Source t.Source
  m2 : Meet s.Target t.Source
  m3 : Meet s.Target t.Target
  c1 : In (t.Source.Arrows.length : Int) s.Components
  c2 : In (t.Components.length : Int) s.Target.Objects
  sh : Shp t.Source.Target
  ll : (thenL s.Components t.Source.Arrows).length = (thenL s.Target.Objects t.Components).length
  i1 : In (t.Source.Target.From.length : Int) (thenL s.Components t.Source.Arrows)
  i2 : In (t.Source.Target.From.length : Int) (thenL s.Target.Objects t.Components)

end Go.Gx

/- Plain laws: the identity functor is a functor. -/
namespace Go.Gx
open Classical
set_option maxHeartbeats 1000000

end Go.Gx

/- Plain laws: functors after each other are functors; natural families. -/
namespace Go.Gx
open Classical
set_option maxHeartbeats 1000000

theorem then_in {c : XCategory} (hc : Shp c) {i j : Int} (h0 : 0 ≤ i ∧ i < (c.From.length : Int)) (h2 : 0 ≤ j ∧ j < (c.From.length : Int)) : M.impl_Category_then c i j = some (cmp c i j) := by
  have := hc.lco
  have := hc.row i h0.1 h0.2
  exact then_eq h0.1 (by omega) h2.1 (by omega)

end Go.Gx

/- Plain laws: units of a category. -/
namespace Go.Gx
open Classical
set_option maxHeartbeats 1000000

end Go.Gx

/- Plain laws: arrows with their ends. -/
namespace Go.Gx
open Classical
set_option maxHeartbeats 1000000

/-- f goes from x to y. -/
structure Ar (c : XCategory) (f x y : Int) : Prop where
  p : 0 ≤ f
  q : f < (c.From.length : Int)
  s : el c.From f = x
  t : el c.To f = y

section
variable {c : XCategory} {f g x y z w : Int}
theorem Ar.rg (h : Ar c f x y) : 0 ≤ f ∧ f < (c.From.length : Int) := ⟨h.p, h.q⟩
theorem Ar.of (h0 : 0 ≤ f) (h1 : f < (c.From.length : Int)) : Ar c f (el c.From f) (el c.To f) := ⟨h0, h1, rfl, rfl⟩
theorem Ar.src (hc : Shp c) (h : Ar c f x y) : 0 ≤ x ∧ x < c.Objects := by rw [← h.s]; exact hc.from_in f h.p h.q
theorem Ar.one (hc : Shp c) (h0 : 0 ≤ x) (h1 : x < c.Objects) : Ar c (el c.Identity x) x x :=
  have h := hc.id_in x h0 h1
  ⟨h.1, h.2, hc.id_from x h0 h1, hc.id_to x h0 h1⟩
theorem Ar.ti (hc : Shp c) (a : Ar c f x y) (b : Ar c g z w) : M.impl_Category_then c f g = some (cmp c f g) := then_in hc a.rg b.rg
theorem Ar.en (hc : Shp c) (a : Ar c f x y) : M.impl_Category_ends c f = some ⟨x, y⟩ := by
  have l := hc.lto
  have e := ends_eq (c := c) (y := f) a.p a.q (by have := a.q; omega)
  rw [a.s, a.t] at e
  exact e
end

theorem IsFun.map {F : XFunctor} (h : IsFun F) {f x y : Int} (a : Ar F.Source f x y) : Ar F.Target (el F.Arrows f) (el F.Objects x) (el F.Objects y) := by
  have la := h.2.2.la
  have i := h.2.2.ina f a.p (by have := a.q; omega)
  exact ⟨i.1, i.2, by rw [h.2.2.afrom f a.p a.q, a.s], by rw [h.2.2.ato f a.p a.q, a.t]⟩

theorem IsNat.at {t : XTransformation} (h : IsNat t) {x : Int} (x0 : 0 ≤ x) (x1 : x < t.Source.Source.Objects) :
    Ar t.Source.Target (el t.Components x) (el t.Source.Objects x) (el t.Target.Objects x) ∧ x < (t.Components.length : Int) := by
  obtain ⟨u1, u2, u3⟩ := h.1.2.2.2
  have i := u2 x x0 (by omega)
  have e := u3 x x0 (by omega)
  exact ⟨⟨i.1, i.2, e.1, e.2⟩, by omega⟩

end Go.Gx

/- Plain laws: hom sets, profunctors of functors. -/
namespace Go.Gx
open Classical
set_option maxHeartbeats 2000000

def homL (c : XCategory) (x y : Int) : List Int := fil (c.From.length : Int) fun s => el c.From s == x && el c.To s == y

/-! ### the profunctor of two functors with one target -/
structure Two (f g : XFunctor) : Prop where
  sf : Shp f.Source
  sg : Shp g.Source
  st : Shp f.Target
  lo : (f.Objects.length : Int) = f.Source.Objects
  la : (f.Arrows.length : Int) = (f.Source.From.length : Int)
  lo' : (g.Objects.length : Int) = g.Source.Objects
  la' : (g.Arrows.length : Int) = (g.Source.From.length : Int)
  ia : In (f.Target.From.length : Int) f.Arrows
  ia' : In (f.Target.From.length : Int) g.Arrows

end Go.Gx
