/- Laid together: part 1. -/
import Derived.Test.YtjmjhhhglbeacaaGxEP0
import Derived.Test.YtjmjhhhglbeacaaGxEM0
/- Plain laws: adjunctions. -/
namespace Go.Gx
open Classical
set_option maxHeartbeats 2000000

structure SmallA (a : XAdjunction) : Prop where
  s1 : SmallF a.Left
  s2 : SmallF a.Right
  s3 : Small a.Unit
  s4 : Small a.Counit
structure FitsA (a : XAdjunction) : Prop where
  f1 : FitsF a.Left
  f2 : FitsF a.Right
  f3 : Fits a.Unit
  f4 : Fits a.Counit
theorem eqAdjunction_refl {a : XAdjunction} (h : SmallA a) : M.laws_eqAdjunction a a = some true := by
  unfold M.laws_eqAdjunction
  rw [eqFunctor_refl h.s1, eqFunctor_refl h.s2, eqInt64S_refl h.s3, eqInt64S_refl h.s4]; simp

/-- All of an adjunction but its triangles. -/
structure Adj0 (a : XAdjunction) : Prop where
  f : IsFun a.Left
  g : IsFun a.Right
  e1 : a.Left.Target = a.Right.Source
  e2 : a.Right.Target = a.Left.Source
  u : IsNat ⟨idF a.Left.Source, thenF a.Left a.Right, a.Unit⟩
  k : IsNat ⟨thenF a.Right a.Left, idF a.Left.Target, a.Counit⟩

theorem Adj0.unit {a : XAdjunction} (h : Adj0 a) {x : Int} (h0 : 0 ≤ x) (h1 : x < a.Left.Source.Objects) :
    x < (a.Unit.length : Int) ∧ (0 ≤ el a.Unit x ∧ el a.Unit x < (a.Left.Source.From.length : Int)) ∧ el a.Left.Source.From (el a.Unit x) = x ∧ el a.Left.Source.To (el a.Unit x) = el a.Right.Objects (el a.Left.Objects x) := by
  obtain ⟨u1, u2, u3⟩ := h.u.1.2.2.2
  have lo := h.f.2.2.lo
  dsimp only [idF, thenF] at u1 u2 u3
  have q := u3 x h0 (by omega)
  rw [el_tab h0 h1, el_thenL h0 (by omega)] at q
  exact ⟨by omega, u2 x h0 (by omega), q.1, q.2⟩
theorem Adj0.counit {a : XAdjunction} (h : Adj0 a) {y : Int} (h0 : 0 ≤ y) (h1 : y < a.Left.Target.Objects) :
    y < (a.Counit.length : Int) ∧ (0 ≤ el a.Counit y ∧ el a.Counit y < (a.Left.Target.From.length : Int)) ∧ el a.Left.Target.From (el a.Counit y) = el a.Left.Objects (el a.Right.Objects y) ∧ el a.Left.Target.To (el a.Counit y) = y := by
  obtain ⟨u1, u2, u3⟩ := h.k.1.2.2.2
  have lo := h.g.2.2.lo
  have e := h.e1
  dsimp only [idF, thenF] at u1 u2 u3
  rw [← e] at u1 lo
  have q := u3 y h0 (by omega)
  rw [el_tab h0 h1, el_thenL h0 (by omega)] at q
  exact ⟨by omega, u2 y h0 (by omega), q.1, q.2⟩
theorem Adj0.lob {a : XAdjunction} (h : Adj0 a) {x : Int} (h0 : 0 ≤ x) (h1 : x < a.Left.Source.Objects) :
    x < (a.Left.Objects.length : Int) ∧ 0 ≤ el a.Left.Objects x ∧ el a.Left.Objects x < a.Left.Target.Objects := by
  have lo := h.f.2.2.lo
  exact ⟨by omega, h.f.2.2.ino x h0 (by omega)⟩
theorem Adj0.rob {a : XAdjunction} (h : Adj0 a) {y : Int} (h0 : 0 ≤ y) (h1 : y < a.Left.Target.Objects) :
    y < (a.Right.Objects.length : Int) ∧ 0 ≤ el a.Right.Objects y ∧ el a.Right.Objects y < a.Left.Source.Objects := by
  have lo := h.g.2.2.lo
  have io := h.g.2.2.ino
  rw [← h.e1] at lo
  rw [h.e2] at io
  exact ⟨by omega, io y h0 (by omega)⟩
theorem Adj0.larr {a : XAdjunction} (h : Adj0 a) {f : Int} (h0 : 0 ≤ f) (h1 : f < (a.Left.Source.From.length : Int)) :
    f < (a.Left.Arrows.length : Int) ∧ (0 ≤ el a.Left.Arrows f ∧ el a.Left.Arrows f < (a.Left.Target.From.length : Int)) ∧ el a.Left.Target.From (el a.Left.Arrows f) = el a.Left.Objects (el a.Left.Source.From f) ∧ el a.Left.Target.To (el a.Left.Arrows f) = el a.Left.Objects (el a.Left.Source.To f) := by
  have la := h.f.2.2.la
  exact ⟨by omega, h.f.2.2.ina f h0 (by omega), h.f.2.2.afrom f h0 h1, h.f.2.2.ato f h0 h1⟩
theorem Adj0.rarr {a : XAdjunction} (h : Adj0 a) {g : Int} (h0 : 0 ≤ g) (h1 : g < (a.Left.Target.From.length : Int)) :
    g < (a.Right.Arrows.length : Int) ∧ (0 ≤ el a.Right.Arrows g ∧ el a.Right.Arrows g < (a.Left.Source.From.length : Int)) ∧ el a.Left.Source.From (el a.Right.Arrows g) = el a.Right.Objects (el a.Left.Target.From g) ∧ el a.Left.Source.To (el a.Right.Arrows g) = el a.Right.Objects (el a.Left.Target.To g) := by
  have la := h.g.2.2.la
  have ia := h.g.2.2.ina
  have af := h.g.2.2.afrom g h0
  have at' := h.g.2.2.ato g h0
  rw [← h.e1] at la af at'
  rw [h.e2] at ia af at'
  exact ⟨by omega, ia g h0 (by omega), af h1, at' h1⟩

theorem Adj0.au {a : XAdjunction} (h : Adj0 a) {x : Int} (h0 : 0 ≤ x) (h1 : x < a.Left.Source.Objects) : Ar a.Left.Source (el a.Unit x) x (el a.Right.Objects (el a.Left.Objects x)) :=
  have u := h.unit h0 h1
  ⟨u.2.1.1, u.2.1.2, u.2.2.1, u.2.2.2⟩
theorem Adj0.ak {a : XAdjunction} (h : Adj0 a) {y : Int} (h0 : 0 ≤ y) (h1 : y < a.Left.Target.Objects) : Ar a.Left.Target (el a.Counit y) (el a.Left.Objects (el a.Right.Objects y)) y :=
  have u := h.counit h0 h1
  ⟨u.2.1.1, u.2.1.2, u.2.2.1, u.2.2.2⟩
theorem Adj0.lm {a : XAdjunction} (h : Adj0 a) {f x y : Int} (r : Ar a.Left.Source f x y) : Ar a.Left.Target (el a.Left.Arrows f) (el a.Left.Objects x) (el a.Left.Objects y) := by
  have u := h.larr r.p r.q
  exact ⟨u.2.1.1, u.2.1.2, by rw [u.2.2.1, r.s], by rw [u.2.2.2, r.t]⟩
theorem Adj0.rm {a : XAdjunction} (h : Adj0 a) {f x y : Int} (r : Ar a.Left.Target f x y) : Ar a.Left.Source (el a.Right.Arrows f) (el a.Right.Objects x) (el a.Right.Objects y) := by
  have u := h.rarr r.p r.q
  exact ⟨u.2.1.1, u.2.1.2, by rw [u.2.2.1, r.s], by rw [u.2.2.2, r.t]⟩
theorem Adj0.a1 {a : XAdjunction} (h : Adj0 a) {x : Int} (h0 : 0 ≤ x) (h1 : x < a.Left.Source.Objects) :
    Ar a.Left.Target (cmp a.Left.Target (el a.Left.Arrows (el a.Unit x)) (el a.Counit (el a.Left.Objects x))) (el a.Left.Objects x) (el a.Left.Objects x) :=
  have o := h.lob h0 h1
  (h.lm (h.au h0 h1)).comp h.f.2.1.1.shp (h.ak o.2.1 o.2.2)
theorem Adj0.a2 {a : XAdjunction} (h : Adj0 a) {y : Int} (h0 : 0 ≤ y) (h1 : y < a.Left.Target.Objects) :
    Ar a.Left.Source (cmp a.Left.Source (el a.Unit (el a.Right.Objects y)) (el a.Right.Arrows (el a.Counit y))) (el a.Right.Objects y) (el a.Right.Objects y) :=
  have o := h.rob h0 h1
  (h.au o.2.1 o.2.2).comp h.f.1.1.shp (h.rm (h.ak h0 h1))

end Go.Gx

/- Plain laws: products of categories. -/
namespace Go.Gx
open Classical
set_option maxHeartbeats 2000000

theorem mulb {i j n m : Int} (i0 : 0 ≤ i) (h : i < n) (h0 : 0 ≤ j) (h1 : j < m) : 0 ≤ i * m ∧ i * m + j < n * m ∧ i * m + m ≤ n * m := by
  have e1 : (i + 1) * m ≤ n * m := Int.mul_le_mul_of_nonneg_right (by omega) (by omega)
  rw [Int.add_mul, Int.one_mul] at e1
  have e2 := Int.mul_nonneg i0 (show 0 ≤ m by omega)
  omega
theorem mulB {n m N M : Int} (h0 : 0 ≤ n) (h1 : n ≤ N) (h2 : 0 ≤ m) (h3 : m ≤ M) : 0 ≤ n * m ∧ n * m ≤ N * M :=
  ⟨Int.mul_nonneg h0 h2, Int.mul_le_mul h1 h3 h2 (by omega)⟩
theorem parts {k n m : Int} (h0 : 0 ≤ k) (h1 : k < n * m) (hm : 0 ≤ m) : 0 < m ∧ 0 ≤ k / m ∧ k / m < n ∧ 0 ≤ k % m ∧ k % m < m := by
  have hm : 0 < m := by
    rcases Int.lt_or_eq_of_le hm with h | h
    · exact h
    · rw [← h, Int.mul_zero] at h1; omega
  exact ⟨hm, Int.ediv_nonneg h0 (by omega), Int.ediv_lt_of_lt_mul hm h1, Int.emod_nonneg _ (by omega), Int.emod_lt_of_pos _ hm⟩
/-- Two numbers as one, over all pairs. -/
abbrev tab2 {α : Type} (n m : Int) (f : Int → Int → α) : List α := tab (n * m) fun k => f (k / m) (k % m)
theorem tab_len' (n : Int) {α : Type} (f : Int → α) (h : 0 ≤ n) : ((tab n f).length : Int) = n := by rw [tab_length]; omega

end Go.Gx

/- Plain laws: the product as impl makes it; projections. -/
namespace Go.Gx
open Classical
set_option maxHeartbeats 2000000

end Go.Gx

/- Plain laws: pairs of lists; products of functors. -/
namespace Go.Gx
open Classical
set_option maxHeartbeats 1000000

abbrev pairF (a b : List Int) (n : Int) (i j : Int) : Int := el a i * n + el b j
def pairL (a b : List Int) (n : Int) : List Int := tab2 (a.length : Int) (b.length : Int) (pairF a b n)
/-- Codes of pairs are small numbers. -/
structure PairOk (a b : List Int) (n A : Int) : Prop where
  hA : A ≤ 40
  hn : n ≤ 40
  la : (a.length : Int) ≤ 40
  lb : (b.length : Int) ≤ 40
  ia : In A a
  ib : In n b

theorem PairOk.len {a b : List Int} {n A : Int} (h : PairOk a b n A) {i j : Int} (i0 : 0 ≤ i) (i1 : i < (a.length : Int)) (j0 : 0 ≤ j) (j1 : j < (b.length : Int)) (F : Int → Int) :
    ((tab (i * (b.length : Int) + j) F).length : Int) ≤ 1600 := by
  have hb1 := mulb i0 i1 j0 j1
  have hB := mulB (n := (a.length : Int)) (m := (b.length : Int)) (N := 40) (M := 40) (by omega) h.la (by omega) h.lb
  rw [tab_len' _ _ (by omega)]; omega
theorem PairOk.small {a b : List Int} {n A : Int} (h : PairOk a b n A) : Small (pairL a b n) := by
  have hB := mulB (n := (a.length : Int)) (m := (b.length : Int)) (N := 40) (M := 40) (by omega) h.la (by omega) h.lb
  unfold Small pairL; rw [tab_len' _ _ hB.1]; omega

/-- A loop that pushes F 0, F 1, .. -/
theorem push_loop {α ρ : Type} {n : Int} (h0 : 0 ≤ n) (hf : n < 4294967296) {F : Int → α} {step : List α × Int → (List α × Int → Option ρ) → Option ρ} {Q : ρ → Prop}
    (hgo : ∀ (i : Int) next, 0 ≤ i → i < n → ((tab i F).length : Int) = i → Ret (next (tab i F ++ [F i], IntKind.i64.wrap (i + 1))) Q → Ret (step (tab i F, i) next) Q)
    (hend : ∀ next, Ret (step (tab n F, n) next) Q) : Ret (iter step fuel (([] : List α), 0)) Q := by
  refine Ret.acc n (fun i s => s = tab i F) h0 hf rfl ?_ ?_
  · rintro i s next i0 i1 rfl hn
    exact hgo i next i0 i1 (tab_len' _ _ i0) (hn _ (tab_succ F i0).symm)
  · rintro s next rfl
    exact hend next

end Go.Gx

/- Plain laws: right adjoints, from universal arrows. -/
namespace Go.Gx
open Classical
set_option maxHeartbeats 1000000

noncomputable def fnd (f : XFunctor) (y : Int) : Int × Int × Bool := if h : IsFun f then Classical.choose (find_both h y) else (0, 0, false)
theorem fnd_spec {f : XFunctor} (h : IsFun f) (y : Int) : M.spec_l15Find f y = some (fnd f y) := by
  unfold fnd
  rw [dif_pos h]
  exact (Classical.choose_spec (find_both h y)).1
theorem fnd_impl {f : XFunctor} (h : IsFun f) (y : Int) : M.impl_Functor_universalArrow f y = some (fnd f y) := by
  unfold fnd
  rw [dif_pos h]
  exact (Classical.choose_spec (find_both h y)).2.1
theorem fnd_ar {f : XFunctor} (h : IsFun f) {y : Int} (hb : (fnd f y).2.2 = true) : (0 ≤ (fnd f y).1 ∧ (fnd f y).1 < f.Source.Objects) ∧ Ar f.Target (fnd f y).2.1 (el f.Objects (fnd f y).1) y ∧ Univ f y (fnd f y).1 (fnd f y).2.1 := by
  have := (Classical.choose_spec (find_both h y)).2.2
  have e : fnd f y = Classical.choose (find_both h y) := by unfold fnd; rw [dif_pos h]
  rw [← e] at this
  exact this.ar hb

def AllFnd (f : XFunctor) (n : Int) : Prop := ∀ y, 0 ≤ y → y < n → (fnd f y).2.2 = true
noncomputable def adX (f : XFunctor) : List Int := tab f.Target.Objects fun y => (fnd f y).1
noncomputable def adE (f : XFunctor) : List Int := tab f.Target.Objects fun y => (fnd f y).2.1
noncomputable def adA (f : XFunctor) (g : Int) : Int := el (lftL f (fnd f (el f.Target.From g)).1 (fnd f (el f.Target.To g)).1 (fnd f (el f.Target.To g)).2.1 (cmp f.Target (fnd f (el f.Target.From g)).2.1 g)) 0
noncomputable def adU (f : XFunctor) (x : Int) : Int := el (lftL f x (fnd f (el f.Objects x)).1 (fnd f (el f.Objects x)).2.1 (el f.Target.Identity (el f.Objects x))) 0
noncomputable def adR (f : XFunctor) : XAdjunction := ⟨f, ⟨f.Target, f.Source, adX f, tab (f.Target.From.length : Int) (adA f)⟩, tab f.Source.Objects (adU f), adE f⟩
def zeroAd : XAdjunction := ⟨⟨⟨0, [], [], [], []⟩, ⟨0, [], [], [], []⟩, [], []⟩, ⟨⟨0, [], [], [], []⟩, ⟨0, [], [], [], []⟩, [], []⟩, [], []⟩
theorem zeroAd_small : SmallA zeroAd := ⟨zeroF_small, zeroF_small, by simp [zeroAd], by simp [zeroAd]⟩

theorem mh_A {a : XAdjunction} (h : SmallA a) : MH 4398065385472 M.laws_markAdjunction M.laws_heldAdjunction (fun _ _ => True) a := by
  intro k h0 h1
  obtain ⟨n1, l1, a1, b1, e1, f1, g1, g1'⟩ := mh_F h.s1 k h0 (by omega)
  obtain ⟨n2, l2, a2, b2, e2, f2, g2, g2'⟩ := mh_F h.s2 (k + n1) (by omega) (by omega)
  obtain ⟨n3, l3, a3, b3, e3, f3, _⟩ := mh_S h.s3 (k + n1 + n2) (by omega) (by omega)
  obtain ⟨n4, l4, a4, b4, e4, f4, _⟩ := mh_S h.s4 (k + n1 + n2 + n3) (by omega) (by omega)
  refine ⟨n1 + n2 + n3 + n4, ⟨l1, l2, l3, l4⟩, by omega, by omega, ?_, ?_, trivial⟩
  · unfold M.laws_markAdjunction
    simp only [e1, e2, e3, e4, Option.bind_some, Option.some.injEq, Prod.mk.injEq]
    refine ⟨by omega, ?_⟩
    rw [← g1, ← g1', ← g2, ← g2']
  · unfold M.laws_heldAdjunction
    simp only [f1, f2, f3, f4, Option.bind_some, decide_eq_true_eq]
    rw [if_neg (by omega), if_neg (by omega), if_neg (by omega), if_neg (by omega)]
    simp only [Option.some.injEq]; omega

theorem adA_one {f : XFunctor} (h : IsFun f) (hf : AllFnd f f.Target.Objects) {g : Int} (g0 : 0 ≤ g) (g1 : g < (f.Target.From.length : Int)) :
    (0 ≤ el f.Target.From g ∧ el f.Target.From g < f.Target.Objects) ∧ (0 ≤ el f.Target.To g ∧ el f.Target.To g < f.Target.Objects) ∧ Ar f.Target (fnd f (el f.Target.From g)).2.1 (el f.Objects (fnd f (el f.Target.From g)).1) (el f.Target.From g) ∧
    Ar f.Target (fnd f (el f.Target.To g)).2.1 (el f.Objects (fnd f (el f.Target.To g)).1) (el f.Target.To g) ∧
    ((lftL f (fnd f (el f.Target.From g)).1 (fnd f (el f.Target.To g)).1 (fnd f (el f.Target.To g)).2.1 (cmp f.Target (fnd f (el f.Target.From g)).2.1 g)).length : Int) = 1 := by
  have hT := h.2.1.1.shp
  have y := hT.from_in g g0 g1
  have z := hT.to_in g g0 g1
  obtain ⟨p1, p2, _⟩ := fnd_ar h (hf _ y.1 y.2)
  obtain ⟨_, q2, q3⟩ := fnd_ar h (hf _ z.1 z.2)
  exact ⟨y, z, p2, q2, q3 _ p1.1 p1.2 _ (ar_hom (p2.comp hT (Ar.of g0 g1)))⟩
theorem adU_one {f : XFunctor} (h : IsFun f) (hf : AllFnd f f.Target.Objects) {x : Int} (x0 : 0 ≤ x) (x1 : x < f.Source.Objects) :
    (0 ≤ el f.Objects x ∧ el f.Objects x < f.Target.Objects) ∧ Ar f.Target (fnd f (el f.Objects x)).2.1 (el f.Objects (fnd f (el f.Objects x)).1) (el f.Objects x) ∧
    ((lftL f x (fnd f (el f.Objects x)).1 (fnd f (el f.Objects x)).2.1 (el f.Target.Identity (el f.Objects x))).length : Int) = 1 := by
  have hT := h.2.1.1.shp
  have lo := h.2.2.lo
  have y := h.2.2.ino x x0 (by omega)
  obtain ⟨_, p2, p3⟩ := fnd_ar h (hf _ y.1 y.2)
  exact ⟨y, p2, p3 _ x0 x1 _ (ar_hom (Ar.one hT y.1 y.2))⟩

theorem l15Right_eq {f : XFunctor} (sf : SmallF f) (h : IsFun f) : M.spec_l15Right f = some (if AllFnd f f.Target.Objects then (adR f, true) else (zeroAd, false)) := by
  apply Ret.eq
  have hS := h.1.1.shp
  have hT := h.2.1.1.shp
  have lo := h.2.2.lo
  have la := h.2.2.la
  have n0 := hS.n0
  have n8 := hS.n8
  have m0 := hT.n0
  have m8 := hT.n8
  have m40 := hT.m40
  have tto := hT.lto
  have tid := hT.lid
  unfold M.spec_l15Right
  refine Ret.loop f.Target.Objects (fun i s => s = (tab i (fun y => (fnd f y).1), tab i (fun y => (fnd f y).2.1), i) ∧ AllFnd f i) m0 (by omega) ⟨rfl, fun y y0 y1 => by omega⟩ ?_ ?_
  · rintro i s next i0 i1 ⟨rfl, hp⟩ hn
    dsimp only
    rw [if_pos (decide_eq_true i1)]
    have l1 : ((tab i fun y => (fnd f y).1).length : Int) = i := tab_len' _ _ i0
    have l2 : ((tab i fun y => (fnd f y).2.1).length : Int) = i := tab_len' _ _ i0
    refine Ret.call (fnd_spec h i) (Ret.ite (fun hb => Ret.chk ?_ (Ret.chk ?_ (hn _ ⟨?_, fun y y0 y1 => ?_⟩))) (fun hb => Ret.some ?_))
    · unfold lim; simp only [List.length_cons, List.length_nil]; omega
    · unfold lim; simp only [List.length_cons, List.length_nil]; omega
    · rw [wrap_in (by omega) (by omega), tab_succ _ i0, tab_succ _ i0]
    · by_cases hy : y = i
      · subst hy; exact hb
      · exact hp y y0 (by omega)
    · rw [if_neg (fun hw => hb (hw i i0 i1))]; rfl
  rintro s next ⟨rfl, hf⟩
  dsimp only
  rw [if_neg (by simp), if_pos hf]
  refine push_loop (n := (f.Target.From.length : Int)) (F := adA f) (by omega) (by omega) ?_ ?_
  · intro g next g0 g1 hl hn
    dsimp only
    rw [if_pos (decide_eq_true g1)]
    obtain ⟨y, z, p, q, u⟩ := adA_one h hf g0 g1
    refine Ret.idx g0 g1 (Ret.idx g0 (by omega) (Ret.idx y.1 (by rw [tab_len' _ _ m0]; exact y.2) (Ret.idx z.1 (by rw [tab_len' _ _ m0]; exact z.2) (Ret.idx z.1 (by rw [tab_len' _ _ m0]; exact z.2) (Ret.idx y.1 (by rw [tab_len' _ _ m0]; exact y.2) ?_)))))
    rw [el_tab y.1 y.2, el_tab z.1 z.2, el_tab z.1 z.2, el_tab y.1 y.2]
    refine Ret.call (p.th hT (Ar.of g0 g1)) (Ret.call (l15Lifts_eq h q) (Ret.idx (Int.le_refl 0) (by omega) (Ret.chk ?_ hn)))
    unfold lim; simp only [List.length_cons, List.length_nil]; omega
  intro next
  dsimp only
  rw [if_neg (by simp)]
  refine push_loop (n := f.Source.Objects) (F := adU f) n0 (by omega) ?_ ?_
  · intro x next x0 x1 hl hn
    dsimp only
    rw [if_pos (decide_eq_true x1)]
    obtain ⟨y, q, u⟩ := adU_one h hf x0 x1
    refine Ret.idx x0 (by omega) (Ret.idx y.1 (by rw [tab_len' _ _ m0]; exact y.2) (Ret.idx y.1 (by rw [tab_len' _ _ m0]; exact y.2) (Ret.idx y.1 (by omega) ?_)))
    rw [el_tab y.1 y.2, el_tab y.1 y.2]
    refine Ret.call (l15Lifts_eq h q) (Ret.idx (Int.le_refl 0) (by omega) (Ret.chk ?_ hn))
    unfold lim; simp only [List.length_cons, List.length_nil]; omega
  intro next
  dsimp only
  rw [if_neg (by simp)]
  have so : Small (tab f.Target.Objects fun y => (fnd f y).1) := by unfold Small; rw [tab_len' _ _ m0]; omega
  have sa : Small (tab (f.Target.From.length : Int) (adA f)) := by unfold Small; rw [tab_len' _ _ (by omega)]; omega
  unfold M.spec_l15Own
  rw [l06Make_eq sf.s1 sf.s2 sf.s3 sf.s4, Option.bind_some, Option.bind_some, l06Make_eq sf.s2 sf.s1 so sa]
  exact Ret.some rfl

theorem through_eq {f : XFunctor} (h : IsFun f) {x z e g y : Int} (he : Ar f.Target e (el f.Objects z) y) (hl : ((lftL f x z e g).length : Int) = 1) : M.impl_Functor_through f x z e g = some (el (lftL f x z e g) 0) := by
  apply Ret.eq
  have hS := h.1.1.shp
  have hT := h.2.1.1.shp
  have la := h.2.2.la
  have l40 := homL_len hS x z
  unfold M.impl_Functor_through
  refine Ret.call (hom_eq hS x z) ?_
  refine Ret.all ((homL f.Source x z).length : Int) (fun i => ¬ cmp f.Target (el f.Arrows (el (homL f.Source x z) i)) e = g) (by omega) (by omega) ?_ ?_
  · intro i next i0 i1 hp hn
    have au := hom_ar (el_mem i0 i1)
    have am := h.map au
    rw [if_pos (decide_eq_true i1)]
    refine Ret.idx i0 i1 (Ret.idx au.p (by have := au.q; omega) (Ret.call (am.ti hT he) (Ret.ite (fun hb => Ret.some ?_) (fun hb => hn (by simpa using hb)))))
    have mu : el (homL f.Source x z) i ∈ lftL f x z e g := by rw [List.mem_filter]; exact ⟨el_mem i0 i1, hb⟩
    match hF : lftL f x z e g with
    | [] => rw [hF] at mu; cases mu
    | [w] =>
      rw [hF] at mu
      simp only [List.mem_cons, List.not_mem_nil, or_false] at mu
      rw [mu]; rfl
    | a :: b :: l => rw [hF] at hl; simp only [List.length_cons] at hl; omega
  · intro next hp
    exfalso
    have m0 : el (lftL f x z e g) 0 ∈ lftL f x z e g := el_mem (by omega) (by omega)
    rw [List.mem_filter] at m0
    obtain ⟨i, i0, i1, e1⟩ := mem_el m0.1
    have := hp i i0 i1
    rw [e1] at this
    exact this (by simpa using m0.2)

theorem adR_small {f : XFunctor} (sf : SmallF f) (h : IsFun f) : SmallA (adR f) := by
  have n8 := h.1.1.shp.n8
  have m8 := h.2.1.1.shp.n8
  have m40 := h.2.1.1.shp.m40
  have big : ∀ {n : Int} (F : Int → Int), n ≤ 40 → Small (tab n F) := by
    intro n F hn; show ((tab n F).length : Int) ≤ _; rw [tab_length]; omega
  have h1 : Small (adX f) := big _ (by omega)
  have h2 : Small (adE f) := big _ (by omega)
  have h3 : Small (tab (f.Target.From.length : Int) (adA f)) := big _ (by omega)
  have h4 : Small (tab f.Source.Objects (adU f)) := big _ (by omega)
  exact ⟨sf, ⟨sf.s2, sf.s1, h1, h3⟩, h4, h2⟩

theorem adjunction_eq {f g : XFunctor} {u e : List Int} (sf : SmallF f) (sg : SmallF g) (su : Small u) (se : Small e) : M.impl_adjunction f g u e = some ⟨f, g, u, e⟩ := by
  unfold M.impl_adjunction
  rw [Fcopy_eq sf, Fcopy_eq sg, clone_eq su, clone_eq se]; rfl

theorem rightAdjoint_eq {f : XFunctor} (sf : SmallF f) (h : IsFun f) : M.impl_Functor_rightAdjoint f = some (if AllFnd f f.Target.Objects then (adR f, true) else (zeroAd, false)) := by
  apply Ret.eq
  have hS := h.1.1.shp
  have hT := h.2.1.1.shp
  have lo := h.2.2.lo
  have la := h.2.2.la
  have n0 := hS.n0
  have n8 := hS.n8
  have m0 := hT.n0
  have m8 := hT.n8
  have m40 := hT.m40
  have tto := hT.lto
  have tid := hT.lid
  unfold M.impl_Functor_rightAdjoint
  refine Ret.loop f.Target.Objects (fun i s => s = (tab i (fun y => (fnd f y).1), tab i (fun y => (fnd f y).2.1), i) ∧ AllFnd f i) m0 (by omega) ⟨rfl, fun y y0 y1 => by omega⟩ ?_ ?_
  · rintro i s next i0 i1 ⟨rfl, hp⟩ hn
    dsimp only
    rw [if_pos (decide_eq_true i1)]
    have l1 : ((tab i fun y => (fnd f y).1).length : Int) = i := tab_len' _ _ i0
    have l2 : ((tab i fun y => (fnd f y).2.1).length : Int) = i := tab_len' _ _ i0
    refine Ret.call (fnd_impl h i) (Ret.ite (fun hb => Ret.chk ?_ (Ret.chk ?_ (hn _ ⟨?_, fun y y0 y1 => ?_⟩))) (fun hb => Ret.some ?_))
    · unfold lim; simp only [List.length_cons, List.length_nil]; omega
    · unfold lim; simp only [List.length_cons, List.length_nil]; omega
    · rw [wrap_in (by omega) (by omega), tab_succ _ i0, tab_succ _ i0]
    · by_cases hy : y = i
      · subst hy; exact hb
      · exact hp y y0 (by omega)
    · rw [if_neg (fun hw => hb (hw i i0 i1))]; rfl
  rintro s next ⟨rfl, hf⟩
  dsimp only
  rw [if_neg (by simp), if_pos hf]
  refine push_loop (n := (f.Target.From.length : Int)) (F := adA f) (by omega) (by omega) ?_ ?_
  · intro g next g0 g1 hl hn
    dsimp only
    rw [if_pos (decide_eq_true g1)]
    obtain ⟨y, z, p, q, u⟩ := adA_one h hf g0 g1
    refine Ret.idx g0 g1 (Ret.idx g0 (by omega) (Ret.idx y.1 (by rw [tab_len' _ _ m0]; exact y.2) (Ret.idx z.1 (by rw [tab_len' _ _ m0]; exact z.2) (Ret.idx z.1 (by rw [tab_len' _ _ m0]; exact z.2) (Ret.idx y.1 (by rw [tab_len' _ _ m0]; exact y.2) ?_)))))
    rw [el_tab y.1 y.2, el_tab z.1 z.2, el_tab z.1 z.2, el_tab y.1 y.2]
    refine Ret.call (p.ti hT (Ar.of g0 g1)) (Ret.call (through_eq h q u) (Ret.chk ?_ hn))
    unfold lim; simp only [List.length_cons, List.length_nil]; omega
  intro next
  dsimp only
  rw [if_neg (by simp)]
  refine push_loop (n := (f.Objects.length : Int)) (F := adU f) (by omega) (by omega) ?_ ?_
  · intro x next x0 x1 hl hn
    dsimp only
    rw [if_pos (decide_eq_true x1)]
    obtain ⟨y, q, u⟩ := adU_one h hf x0 (by omega)
    refine Ret.idx x0 (by omega) (Ret.idx y.1 (by rw [tab_len' _ _ m0]; exact y.2) (Ret.idx y.1 (by rw [tab_len' _ _ m0]; exact y.2) (Ret.idx y.1 (by omega) ?_)))
    rw [el_tab y.1 y.2, el_tab y.1 y.2]
    refine Ret.call (through_eq h q u) (Ret.chk ?_ hn)
    unfold lim; simp only [List.length_cons, List.length_nil]; omega
  intro next
  dsimp only
  rw [if_neg (by simp), lo]
  have so : Small (tab f.Target.Objects fun y => (fnd f y).1) := by unfold Small; rw [tab_len' _ _ m0]; omega
  have se : Small (tab f.Target.Objects fun y => (fnd f y).2.1) := by unfold Small; rw [tab_len' _ _ m0]; omega
  have sa : Small (tab (f.Target.From.length : Int) (adA f)) := by unfold Small; rw [tab_len' _ _ (by omega)]; omega
  have su : Small (tab f.Source.Objects (adU f)) := by unfold Small; rw [tab_len' _ _ n0]; omega
  rw [functor_eq sf.s2 sf.s1 so sa, Option.bind_some, adjunction_eq sf ⟨sf.s2, sf.s1, so, sa⟩ su se]
  exact Ret.some rfl
end Go.Gx

/- The law of RightAdjointOf. -/
namespace Go.Gx
open Classical
set_option maxHeartbeats 1000000

theorem RightAdjointOf_both {f : XFunctor} (sf : SmallF f) : ∃ r w, SmallA r ∧ M.spec_RightAdjointOf f = some (r, w) ∧ M.impl_RightAdjointOf f = some (r, w) := by
  unfold M.spec_RightAdjointOf M.impl_RightAdjointOf
  rw [l06Is_eq sf, isFunctor_eq sf]
  by_cases h : IsFun f
  · rw [decide_eq_true h]
    simp only [Option.bind_some, if_true]
    rw [l15Right_eq sf h, rightAdjoint_eq sf h]
    by_cases hf : AllFnd f f.Target.Objects
    · rw [if_pos hf]
      exact ⟨_, _, adR_small sf h, rfl, rfl⟩
    · rw [if_neg hf]
      exact ⟨zeroAd, _, zeroAd_small, rfl, rfl⟩
  · rw [decide_eq_false h]
    exact ⟨zeroAd, _, zeroAd_small, rfl, rfl⟩

theorem law_RightAdjointOf {a0 : XFunctor} (h0 : R.XFunctor a0) : M.laws_FnExactRightAdjointOf a0 = some true := by
  unfold M.laws_FnExactRightAdjointOf
  obtain ⟨v0, e0, hv0⟩ := szFunctor_r (n := 1048576) (by decide) (by decide) (fitsF h0)
  rw [e0, Option.bind_some]
  rcases hv0 with ⟨z0, _⟩ | ⟨l0, u0, s0⟩
  · rw [if_pos (decide_eq_true z0)]
  · rw [if_neg (fun h => absurd (of_decide_eq_true h) (by omega))]
    rw [toFunctor_eq s0, Option.bind_some]
    obtain ⟨g0, w, hg0, es, ei⟩ := RightAdjointOf_both s0
    rw [es, ei]
    simp only [Option.bind_some]
    rw [eqAdjunction_refl hg0, eqFunctor_refl s0]
    obtain ⟨n0, x0, p0, q0, c0, d0, _⟩ := mh_F s0 1 (by omega) (by omega)
    obtain ⟨n1, x1, p1, q1, c1, d1, _⟩ := mh_A hg0 1 (by omega) (by omega)
    simp only [Option.bind_some, bne_self_eq_false, Bool.false_eq_true, if_false, if_true, decide_eq_true_eq, c0, c1, d1]
    rw [if_neg (by omega), if_neg (by omega)]

end Go.Gx

/- The law of HomProfunctor. -/
namespace Go.Gx
open Classical
set_option maxHeartbeats 1000000

/-! ### marks on lists of lists of lists -/
def rS (x : List (List Int)) (k : Int) : Int × List (List Int) := (M.laws_markInt64SS x k).getD (0, [])
def ksN (l : List (List (List Int))) (k : Int) : Nat → Int
  | 0 => k
  | i + 1 => (rS (el l (i : Int)) (ksN l k i)).1
def ks (l : List (List (List Int))) (k i : Int) : Int := ksN l k i.toNat
def SmallR (r : List (List Int)) : Prop := Small r ∧ ∀ q ∈ r, Small q

structure SmallP (p : XProfunctor) : Prop where
  s1 : SmallC p.Source
  s2 : SmallC p.Target
  s3 : SmallR p.Sizes
  l4 : (p.Before.length : Int) ≤ 1024
  s4 : ∀ r ∈ p.Before, SmallR r
  l5 : (p.Behind.length : Int) ≤ 1024
  s5 : ∀ r ∈ p.Behind, SmallR r

/-! ### the identity -/
end Go.Gx

/- Plain laws: set functors. -/
namespace Go.Gx
open Classical
set_option maxHeartbeats 4000000

structure SmallG (F : XSetFunctor) : Prop where
  s1 : SmallC F.Shape
  s2 : Small F.Sizes
  s3 : Small F.Actions
  s4 : ∀ r ∈ F.Actions, Small r
structure FitsG (F : XSetFunctor) : Prop where
  f1 : FitsC F.Shape
  f2 : Fits F.Sizes
  f3 : Fits F.Actions
  f4 : ∀ r ∈ F.Actions, Fits r
/-! ### which are set functors -/
def ActOk (F : XSetFunctor) (a : Int) : Prop := ((el F.Actions a).length : Int) = el F.Sizes (el F.Shape.From a) ∧ In (el F.Sizes (el F.Shape.To a)) (el F.Actions a)
structure ShpG (F : XSetFunctor) : Prop where
  cat : IsCat F.Shape
  ls : (F.Sizes.length : Int) = F.Shape.Objects
  la : (F.Actions.length : Int) = (F.Shape.From.length : Int)
  siz : ∀ i, 0 ≤ i → i < (F.Sizes.length : Int) → 0 ≤ el F.Sizes i ∧ el F.Sizes i ≤ 16
  act : ∀ a, 0 ≤ a → a < (F.Actions.length : Int) → ActOk F a

/-- The image of e under the action of a. -/
abbrev act (F : XSetFunctor) (a e : Int) : Int := el (el F.Actions a) e
def UnitG (F : XSetFunctor) : Prop := ∀ x, 0 ≤ x → x < F.Shape.Objects → ∀ e, 0 ≤ e → e < el F.Sizes x → act F (el F.Shape.Identity x) e = e
def CompG (F : XSetFunctor) : Prop := ∀ f, 0 ≤ f → f < (F.Shape.From.length : Int) → ∀ g, 0 ≤ g → g < (F.Shape.From.length : Int) → el F.Shape.To f = el F.Shape.From g →
  ∀ e, 0 ≤ e → e < el F.Sizes (el F.Shape.From f) → act F (cmp F.Shape f g) e = act F g (act F f e)

def IsSet (F : XSetFunctor) : Prop := ShpG F ∧ UnitG F ∧ CompG F

end Go.Gx

/- The law of SumSets. -/
namespace Go.Gx
open Classical
set_option maxHeartbeats 2000000

/-- Two set functors on one shape. -/
structure TwoG (F G : XSetFunctor) : Prop where
  f : IsSet F
  g : IsSet G
  e : F.Shape = G.Shape

/-- What the indices need. -/
theorem TwoG.sz {F G : XSetFunctor} (h : TwoG F G) {x : Int} (x0 : 0 ≤ x) (x1 : x < (F.Sizes.length : Int)) :
    x < (G.Sizes.length : Int) ∧ (0 ≤ el F.Sizes x ∧ el F.Sizes x ≤ 16) ∧ (0 ≤ el G.Sizes x ∧ el G.Sizes x ≤ 16) := by
  have l1 := h.f.1.ls
  have l2 := h.g.1.ls
  rw [← h.e] at l2
  exact ⟨by omega, h.f.1.siz x x0 x1, h.g.1.siz x x0 (by omega)⟩
theorem TwoG.ac {F G : XSetFunctor} (h : TwoG F G) {a : Int} (a0 : 0 ≤ a) (a1 : a < (F.Actions.length : Int)) :
    a < (G.Actions.length : Int) ∧ a < (F.Shape.To.length : Int) ∧ (0 ≤ el F.Shape.To a ∧ el F.Shape.To a < (F.Sizes.length : Int)) ∧ ((el F.Actions a).length : Int) ≤ 16 ∧ ((el G.Actions a).length : Int) ≤ 16 ∧
    ∀ i, 0 ≤ i → i < ((el G.Actions a).length : Int) → 0 ≤ el (el G.Actions a) i ∧ el (el G.Actions a) i ≤ 1048576 := by
  have l1 := h.f.1.la
  have l2 := h.g.1.la
  have l3 := h.f.1.ls
  have l4 := h.g.1.ls
  have e := h.e
  rw [← e] at l2 l4
  have hc := h.f.1.cat.1.shp
  have lt := hc.lto
  have t := hc.to_in a a0 (by omega)
  have s := hc.from_in a a0 (by omega)
  have f1 := (h.f.1.act a a0 a1).1
  have g1 := (h.g.1.act a a0 (by omega)).1
  have g2 := (h.g.1.act a a0 (by omega)).2
  rw [← e] at g1 g2
  have z1 := h.f.1.siz _ s.1 (by omega)
  have z2 := h.g.1.siz _ s.1 (by omega)
  have z3 := h.g.1.siz _ t.1 (by omega)
  refine ⟨by omega, by omega, ⟨t.1, by omega⟩, by omega, by omega, fun i i0 i1 => ?_⟩
  have := g2 i i0 i1
  omega

end Go.Gx

/- Plain laws: profunctors with a limit; loops that lay lists one behind the other. -/
namespace Go.Gx
open Classical
set_option maxHeartbeats 1000000

/-! ### lists one behind the other -/
def cat (n : Int) (H : Int → List Int) : List Int := (tab n H).flatten
end Go.Gx

/- Plain laws: opposites. -/
namespace Go.Gx
open Classical
set_option maxHeartbeats 1000000

def opC (c : XCategory) : XCategory := ⟨c.Objects, c.To, c.From, c.Identity, tab (c.From.length : Int) fun i => tab (c.From.length : Int) fun j => cmp c j i⟩
def opF (f : XFunctor) : XFunctor := ⟨opC f.Source, opC f.Target, f.Objects, f.Arrows⟩

theorem opC_small {c : XCategory} (h : Shp c) : SmallC (opC c) := by
  obtain ⟨s1, s2, s3, s4, s5⟩ := h.small
  have hm := h.m40
  refine ⟨s2, s1, s3, ?_, ?_⟩
  · simp only [opC, Small, tab_length]; omega
  · intro r hr
    obtain ⟨i, h0, h1, rfl⟩ := mem_el hr
    simp only [opC, tab_length] at h1
    simp only [opC, Small]
    rw [el_tab h0 (by omega), tab_length]; omega

theorem l03Op_eq {c : XCategory} (h : Shp c) : M.spec_l03Op c = some (opC c) := by
  apply Ret.eq
  obtain ⟨s1, s2, s3, s4, s5⟩ := h.small
  unfold M.spec_l03Op
  refine Ret.call (own_eq s2) (Ret.call (own_eq s1) (Ret.call (own_eq s3) ?_))
  have hm := h.m40
  have hc := h.lco
  refine Ret.acc (c.From.length : Int) (fun i a => a = tab i fun i => tab (c.From.length : Int) fun j => cmp c j i) (by omega) (by omega) rfl ?_ ?_
  · rintro i a next hi0 hi1 rfl hn1
    dsimp only
    simp only [decide_eq_true_eq]
    rw [if_pos hi1]
    refine Ret.acc (c.From.length : Int) (fun j a => a = tab j fun j => cmp c j i) (by omega) (by omega) rfl ?_ ?_
    · rintro j a next' hj0 hj1 rfl hn2
      dsimp only
      have hr := h.row j hj0 hj1
      (repeat' (first | with_reducible refine Ret.pos ‹_› ?_ | with_reducible refine Ret.neg ‹_› ?_ | with_reducible refine Ret.neg (Int.lt_irrefl _) ?_ | with_reducible refine Ret.ite (fun _ => ?_) (fun _ => ?_) | with_reducible refine Ret.idx ?_ ?_ ?_ | with_reducible refine Ret.chk ?_ ?_ | with_reducible refine hn3 ?_ | with_reducible refine hn2 ?_ | with_reducible refine hn1 ?_ | with_reducible refine hn3 _ ?_ | with_reducible refine hn2 _ ?_ | with_reducible refine hn1 _ ?_ | with_reducible refine Ret.some ?_))
      · exact hj0
      · omega
      · exact hi0
      · omega
      · rw [tab_length]; unfold lim; simp; omega
      · exact (tab_succ _ hj0).symm
    · rintro a next' rfl
      dsimp only
      rw [if_neg (by omega)]
      refine Ret.chk (by rw [tab_length]; unfold lim; omega) (hn1 _ (tab_succ (fun i => tab (c.From.length : Int) fun j => cmp c j i) hi0).symm)
  · rintro a next rfl
    dsimp only
    simp only [decide_eq_true_eq]
    rw [if_neg (by omega)]
    exact Ret.some rfl

theorem l06Op_eq {f : XFunctor} (h : SmallF f) (hS : Shp f.Source) (hT : Shp f.Target) : M.spec_l06Op f = some (opF f) := by
  unfold M.spec_l06Op
  rw [l03Op_eq hS, l03Op_eq hT]
  show (M.spec_l06Make _ _ _ _).bind _ = _
  rw [l06Make_eq (opC_small hS) (opC_small hT) h.s3 h.s4]; rfl

theorem opposite_eq {c : XCategory} (h : Shp c) : M.impl_opposite c = some (opC c) := by
  obtain ⟨s1, s2, s3, s4, s5⟩ := h.small
  have hm := h.m40
  have ht := h.lto
  have hc := h.lco
  unfold M.impl_opposite
  rw [clone_eq s1, clone_eq s2, clone_eq s3]
  simp only [Option.bind_some]
  rw [table_eq (v := fun i j => cmp c j i)]
  · simp only [Option.bind_some, opC, ht, Option.some.injEq, XCategory.mk.injEq, true_and]
    apply tab_congr; intro i hi0 hi1
    apply tab_congr; intro j hj0 hj1
    split
    · rfl
    · rename_i hne
      exact (h.no j i hj0 hj1 hi0 hi1 (fun e => hne e.symm)).symm
  · show (c.To.length : Int) ≤ 40
    omega
  · show (c.From.length : Int) = (c.To.length : Int)
    omega
  · intro i j hi0 hi1 hj0 hj1 _
    unfold M.impl_opposite_1
    have hi2 : i < (c.From.length : Int) := by
      have : i < (c.To.length : Int) := hi1
      omega
    have hj2 : j < (c.From.length : Int) := by
      have : j < (c.To.length : Int) := hj1
      omega
    have := h.row j hj0 hj2
    rw [then_eq hj0 (by omega) hi0 (by omega)]; rfl

theorem Functor_opposite_eq {f : XFunctor} (h : SmallF f) (hS : Shp f.Source) (hT : Shp f.Target) : M.impl_Functor_opposite f = some (opF f) := by
  unfold M.impl_Functor_opposite
  rw [opposite_eq hS, opposite_eq hT]
  show (M.impl_functor _ _ _ _).bind _ = _
  rw [functor_eq (opC_small hS) (opC_small hT) h.s3 h.s4]; rfl

end Go.Gx

/- The law of PairsProfunctor. -/
namespace Go.Gx
open Classical
set_option maxHeartbeats 1000000

theorem opC_cmp {c : XCategory} {i j : Int} (i0 : 0 ≤ i) (i1 : i < (c.From.length : Int)) (j0 : 0 ≤ j) (j1 : j < (c.From.length : Int)) : cmp (opC c) i j = cmp c j i := by
  show el (el (tab (c.From.length : Int) fun i => tab (c.From.length : Int) fun j => cmp c j i) i) j = _
  rw [el_tab i0 i1, el_tab j0 j1]
theorem opC_shp {c : XCategory} (h : Shp c) : Shp (opC c) := by
  have lto := h.lto
  have e : ((opC c).From.length : Int) = (c.From.length : Int) := lto
  refine ⟨h.n0, h.n8, by rw [e]; exact h.m40, e.symm, h.lid, ?_, fun i i0 i1 => h.to_in i i0 (by omega), fun i i0 i1 => h.from_in i i0 (by omega), fun i i0 i1 => ?_, h.id_to, h.id_from, fun i i0 i1 => ?_, ?_, ?_, ?_, ?_⟩
  · rw [e]
    show ((tab (c.From.length : Int) fun i => tab (c.From.length : Int) fun j => cmp c j i).length : Int) = _
    rw [tab_length]; omega
  · have := h.id_in i i0 i1
    exact ⟨this.1, by rw [e]; exact this.2⟩
  · rw [e]
    show ((el (tab (c.From.length : Int) fun i => tab (c.From.length : Int) fun j => cmp c j i) i).length : Int) = _
    rw [el_tab i0 (by omega), tab_length]; omega
  · intro i j i0 i1 j0 j1 hne
    rw [opC_cmp i0 (by omega) j0 (by omega)]
    exact h.no j i j0 (by omega) i0 (by omega) (fun x => hne x.symm)
  · intro i j i0 i1 j0 j1 he
    rw [opC_cmp i0 (by omega) j0 (by omega), e]
    exact h.yes j i j0 (by omega) i0 (by omega) he.symm
  · intro i j i0 i1 j0 j1 he
    rw [opC_cmp i0 (by omega) j0 (by omega)]
    exact h.cto j i j0 (by omega) i0 (by omega) he.symm
  · intro i j i0 i1 j0 j1 he
    rw [opC_cmp i0 (by omega) j0 (by omega)]
    exact h.cfrom j i j0 (by omega) i0 (by omega) he.symm

end Go.Gx

/- The law of LeftAdjointOf. -/
namespace Go.Gx
open Classical
set_option maxHeartbeats 1000000

theorem opC_nofault {c : XCategory} (h : IsCat c) : NoFault (opC c) := by
  have hS := h.1.shp
  have lto := hS.lto
  have eF : ((opC c).From.length : Int) = (c.From.length : Int) := lto
  refine ⟨fun f f0 f1 => ?_, fun f g k f0 f1 g0 g1 k0 k1 e1 e2 => ?_⟩
  · have f1' : f < (c.From.length : Int) := by omega
    have a := hS.to_in f f0 f1'
    have b := hS.from_in f f0 f1'
    have ia := hS.id_in _ a.1 a.2
    have ib := hS.id_in _ b.1 b.2
    have q := h.2.1 f f0 f1'
    exact ⟨by rw [show (opC c).From = c.To from rfl, show (opC c).Identity = c.Identity from rfl, opC_cmp ia.1 ia.2 f0 f1']; exact q.2, by rw [show (opC c).To = c.From from rfl, show (opC c).Identity = c.Identity from rfl, opC_cmp f0 f1' ib.1 ib.2]; exact q.1⟩
  · have f1' : f < (c.From.length : Int) := by omega
    have g1' : g < (c.From.length : Int) := by omega
    have k1' : k < (c.From.length : Int) := by omega
    have e1 : el c.From f = el c.To g := e1
    have e2 : el c.From g = el c.To k := e2
    have y1 := hS.yes g f g0 g1' f0 f1' e1.symm
    have y2 := hS.yes k g k0 k1' g0 g1' e2.symm
    rw [opC_cmp f0 f1' g0 g1', opC_cmp g0 g1' k0 k1', opC_cmp y1.1 y1.2 k0 k1', opC_cmp f0 f1' y2.1 y2.2]
    exact (h.2.2 k g f k0 k1' g0 g1' f0 f1' e2.symm e1.symm).symm

theorem Shp.shape {c : XCategory} (h : Shp c) : Shape c := by
  refine ⟨h.n0, h.n8, h.m40, h.lto, h.lid, h.lco, fun i i0 i1 => h.from_in i i0 i1, fun i i0 i1 => h.to_in i i0 (by have := h.lto; omega), fun i i0 i1 => h.id_in i i0 (by have := h.lid; omega), fun i i0 i1 => ⟨h.id_from i i0 i1, h.id_to i i0 i1⟩, fun i i0 i1 => ⟨h.row i i0 i1, fun j j0 j1 => ⟨fun e => h.no i j i0 i1 j0 j1 e, fun e => ?_⟩⟩⟩
  have y := h.yes i j i0 i1 j0 j1 e
  exact ⟨y.1, y.2, h.cfrom i j i0 i1 j0 j1 e, h.cto i j i0 i1 j0 j1 e⟩
theorem opC_cat {c : XCategory} (h : IsCat c) : IsCat (opC c) := ⟨(opC_shp h.1.shp).shape, opC_nofault h⟩
theorem opF_fun {f : XFunctor} (h : IsFun f) : IsFun (opF f) := by
  obtain ⟨hS, hT, hF⟩ := h
  have hs := hS.1.shp
  have ht := hT.1.shp
  have slt := hs.lto
  have tlt := ht.lto
  have la := hF.la
  have eS : ((opC f.Source).From.length : Int) = (f.Source.From.length : Int) := slt
  have eT : ((opC f.Target).From.length : Int) = (f.Target.From.length : Int) := tlt
  refine ⟨opC_cat hS, opC_cat hT, hF.lo, ?_, hF.ino, ?_, fun a a0 a1 => hF.ato a a0 (by show a < (f.Source.From.length : Int); have a1 : a < ((opC f.Source).From.length : Int) := a1; omega), fun a a0 a1 => hF.afrom a a0 (by have a1 : a < ((opC f.Source).From.length : Int) := a1; omega), hF.aid, fun a b a0 a1 b0 b1 e => ?_⟩
  · show (f.Arrows.length : Int) = ((opC f.Source).From.length : Int)
    omega
  · intro i i0 i1
    have := hF.ina i i0 i1
    exact ⟨this.1, by show el f.Arrows i < ((opC f.Target).From.length : Int); omega⟩
  · have a1 : a < (f.Source.From.length : Int) := by have a1 : a < ((opC f.Source).From.length : Int) := a1; omega
    have b1 : b < (f.Source.From.length : Int) := by have b1 : b < ((opC f.Source).From.length : Int) := b1; omega
    have ia := hF.ina a a0 (by omega)
    have ib := hF.ina b b0 (by omega)
    have e : el f.Source.From a = el f.Source.To b := e
    show el f.Arrows (cmp (opC f.Source) a b) = cmp (opC f.Target) (el f.Arrows a) (el f.Arrows b)
    rw [opC_cmp a0 a1 b0 b1, opC_cmp ia.1 ia.2 ib.1 ib.2]
    exact hF.acmp b a b0 b1 a0 a1 e.symm

theorem opF_small {f : XFunctor} (sf : SmallF f) (h : IsFun f) : SmallF (opF f) := ⟨opC_small h.1.1.shp, opC_small h.2.1.1.shp, sf.s3, sf.s4⟩

noncomputable def opA (a : XAdjunction) : XAdjunction := ⟨opF a.Right, opF a.Left, a.Counit, a.Unit⟩

theorem LeftAdjointOf_both {f : XFunctor} (sf : SmallF f) : ∃ r w, SmallA r ∧ M.spec_LeftAdjointOf f = some (r, w) ∧ M.impl_LeftAdjointOf f = some (r, w) := by
  unfold M.spec_LeftAdjointOf M.impl_LeftAdjointOf
  rw [l06Is_eq sf, isFunctor_eq sf]
  by_cases h : IsFun f
  · have ho := opF_fun h
    have so := opF_small sf h
    rw [decide_eq_true h, l06Op_eq sf h.1.1.shp h.2.1.1.shp, Functor_opposite_eq sf h.1.1.shp h.2.1.1.shp]
    simp only [Option.bind_some, if_true]
    rw [l15Right_eq so ho, rightAdjoint_eq so ho]
    by_cases hf : AllFnd (opF f) (opF f).Target.Objects
    · rw [if_pos hf]
      have sa := adR_small so ho
      have rs : Shp (adR (opF f)).Right.Source := ho.2.1.1.shp
      have rt : Shp (adR (opF f)).Right.Target := ho.1.1.shp
      have ls : Shp (adR (opF f)).Left.Source := ho.1.1.shp
      have lt : Shp (adR (opF f)).Left.Target := ho.2.1.1.shp
      have s1 : SmallF (opF (adR (opF f)).Right) := ⟨opC_small rs, opC_small rt, sa.s2.s3, sa.s2.s4⟩
      have s2 : SmallF (opF (adR (opF f)).Left) := ⟨opC_small ls, opC_small lt, sa.s1.s3, sa.s1.s4⟩
      refine ⟨opA (adR (opF f)), 0, ⟨s1, s2, sa.s4, sa.s3⟩, ?_, ?_⟩
      · simp only [Option.bind_some, if_true]
        unfold M.spec_l15Op
        rw [l06Op_eq sa.s2 rs rt, l06Op_eq sa.s1 ls lt, own_eq sa.s4, own_eq sa.s3]; rfl
      · simp only [Option.bind_some, if_true]
        unfold M.impl_Adjunction_opposite
        rw [Functor_opposite_eq sa.s2 rs rt, Functor_opposite_eq sa.s1 ls lt]
        simp only [Option.bind_some]
        rw [adjunction_eq s1 s2 sa.s4 sa.s3]; rfl
    · rw [if_neg hf]
      exact ⟨zeroAd, _, zeroAd_small, rfl, rfl⟩
  · rw [decide_eq_false h]
    exact ⟨zeroAd, _, zeroAd_small, rfl, rfl⟩

theorem law_LeftAdjointOf {a0 : XFunctor} (h0 : R.XFunctor a0) : M.laws_FnExactLeftAdjointOf a0 = some true := by
  unfold M.laws_FnExactLeftAdjointOf
  obtain ⟨v0, e0, hv0⟩ := szFunctor_r (n := 1048576) (by decide) (by decide) (fitsF h0)
  rw [e0, Option.bind_some]
  rcases hv0 with ⟨z0, _⟩ | ⟨l0, u0, s0⟩
  · rw [if_pos (decide_eq_true z0)]
  · rw [if_neg (fun h => absurd (of_decide_eq_true h) (by omega))]
    rw [toFunctor_eq s0, Option.bind_some]
    obtain ⟨g0, w, hg0, es, ei⟩ := LeftAdjointOf_both s0
    rw [es, ei]
    simp only [Option.bind_some]
    rw [eqAdjunction_refl hg0, eqFunctor_refl s0]
    obtain ⟨n0, x0, p0, q0, c0, d0, _⟩ := mh_F s0 1 (by omega) (by omega)
    obtain ⟨n1, x1, p1, q1, c1, d1, _⟩ := mh_A hg0 1 (by omega) (by omega)
    simp only [Option.bind_some, bne_self_eq_false, Bool.false_eq_true, if_false, if_true, decide_eq_true_eq, c0, c1, d1]
    rw [if_neg (by omega), if_neg (by omega)]

end Go.Gx

/- Plain laws: arrows out of an object. -/
namespace Go.Gx
open Classical
set_option maxHeartbeats 1000000

theorem outOf_eq {c : XCategory} (h : Small c.From) (x : Int) : M.impl_Category_outOf c x = some (fil (c.From.length : Int) fun s => el c.From s == x) := by
  apply Ret.eq
  unfold M.impl_Category_outOf
  refine Ret.acc (c.From.length : Int) (fun i a => a = fil i fun s => el c.From s == x) (by omega) (by omega) rfl ?_ ?_
  · rintro i a next hi0 hi1 rfl hn1
    have hle := fil_length_le i fun s => el c.From s == x
    dsimp only
    simp only [decide_eq_true_eq, beq_iff_eq]
    (repeat' (first | with_reducible refine Ret.pos ‹_› ?_ | with_reducible refine Ret.neg ‹_› ?_ | with_reducible refine Ret.neg (Int.lt_irrefl _) ?_ | with_reducible refine Ret.ite (fun _ => ?_) (fun _ => ?_) | with_reducible refine Ret.idx ?_ ?_ ?_ | with_reducible refine Ret.chk ?_ ?_ | with_reducible refine hn3 ?_ | with_reducible refine hn2 ?_ | with_reducible refine hn1 ?_ | with_reducible refine hn3 _ ?_ | with_reducible refine hn2 _ ?_ | with_reducible refine hn1 _ ?_ | with_reducible refine Ret.some ?_))
    · exact hi0
    · exact hi1
    · unfold lim; simp only [List.length_cons, List.length_nil]; omega
    · rw [fil_succ _ hi0]; simp [*]
    · rw [fil_succ _ hi0]; simp [*]
  · rintro a next rfl
    dsimp only
    simp only [decide_eq_true_eq]
    rw [if_neg (by omega)]
    exact Ret.some rfl

end Go.Gx

/- Plain laws: monoidal categories. -/
namespace Go.Gx
open Classical
set_option maxHeartbeats 2000000

structure SmallO (m : XMonoidal) : Prop where
  s1 : SmallC m.On
  s2 : Small m.Objects
  s3 : ∀ r ∈ m.Objects, Small r
  s4 : Small m.Arrows
  s5 : ∀ r ∈ m.Arrows, Small r
structure FitsO (m : XMonoidal) : Prop where
  f1 : FitsC m.On
  f2 : Fits m.Objects
  f3 : ∀ r ∈ m.Objects, Fits r
  f4 : Fits m.Arrows
  f5 : ∀ r ∈ m.Arrows, Fits r
theorem fitsO {m : XMonoidal} (h : R.XMonoidal m) : FitsO m := ⟨fitsC h.1, h.2.2.1.1, fun r hr => (h.2.2.1.2 r hr).1, h.2.2.2.1, fun r hr => (h.2.2.2.2 r hr).1⟩

theorem szMonoidal_r {m : XMonoidal} {n : Int} (h0 : 0 ≤ n) (h1 : n ≤ 1048576) (h : FitsO m) :
    Ret (M.laws_szMonoidal m n) fun r => (r < 0 ∧ r = -1) ∨ (0 ≤ r ∧ r ≤ n ∧ SmallO m) := by
  obtain ⟨g1, g2, g3, g4, g5⟩ := h
  unfold M.laws_szMonoidal
  simp only [decide_eq_true_eq]
  (repeat' (first | with_reducible refine Ret.pos ‹_› ?_ | with_reducible refine Ret.neg ‹_› ?_ | with_reducible refine Ret.neg (Int.lt_irrefl _) ?_ | with_reducible refine Ret.ite (fun _ => ?_) (fun _ => ?_) | with_reducible refine Ret.idx ?_ ?_ ?_ | with_reducible refine Ret.chk ?_ ?_ | with_reducible refine hn3 ?_ | with_reducible refine hn2 ?_ | with_reducible refine hn1 ?_ | with_reducible refine hn3 _ ?_ | with_reducible refine hn2 _ ?_ | with_reducible refine hn1 _ ?_ | with_reducible refine Ret.bind (szInt64SS_r ?_ ?_ ?_ ?_) fun v hv => ?_ | with_reducible refine Ret.bind (szCategory_r ?_ ?_ ?_) fun v hv => ?_ | with_reducible refine Ret.some ?_))
  all_goals first | assumption | omega | (refine Or.inl ⟨by omega, rfl⟩) | (refine Or.inr ⟨by omega, by omega, ⟨?_, ?_, ?_, ?_, ?_⟩⟩ <;> grind)
theorem toMonoidal_eq {m : XMonoidal} (h : SmallO m) : M.laws_toMonoidal m = some m := by
  unfold M.laws_toMonoidal
  rw [toCategory_eq h.s1, toInt64SS_eq h.s2 h.s3, toInt64SS_eq h.s4 h.s5]; rfl
theorem eqMonoidal_refl {m : XMonoidal} (h : SmallO m) : M.laws_eqMonoidal m m = some true := by
  unfold M.laws_eqMonoidal
  rw [eqCategory_refl h.s1, eqInt64SS_refl h.s2 h.s3, eqInt64SS_refl h.s4 h.s5]; simp

/-- An entry of a table. -/
abbrev tb (t : List (List Int)) (i j : Int) : Int := el (el t i) j
def RowOk (n : Int) (t : List (List Int)) (i : Int) : Prop := ((el t i).length : Int) = n ∧ In n (el t i)
structure Tbl (n : Int) (t : List (List Int)) : Prop where
  l : (t.length : Int) = n
  r : ∀ i, 0 ≤ i → i < n → RowOk n t i
theorem Tbl.iff {n : Int} {t : List (List Int)} : Tbl n t ↔ (t.length : Int) = n ∧ ∀ i, 0 ≤ i → i < n → RowOk n t i := ⟨fun h => ⟨h.1, h.2⟩, fun h => ⟨h.1, h.2⟩⟩
theorem Tbl.inn {n : Int} {t : List (List Int)} (h : Tbl n t) {i j : Int} (i0 : 0 ≤ i ∧ i < n) (j0 : 0 ≤ j ∧ j < n) : 0 ≤ tb t i j ∧ tb t i j < n := by
  have := h.r i i0.1 i0.2
  exact this.2 j j0.1 (by rw [this.1]; exact j0.2)
theorem Tbl.idx {ρ : Type} {Q : ρ → Prop} {n : Int} {t : List (List Int)} (h : Tbl n t) {i j : Int} {f : Int → Option ρ} (i0 : 0 ≤ i ∧ i < n) (j0 : 0 ≤ j ∧ j < n) (hf : Ret (f (tb t i j)) Q) : Ret ((Gx.idx t i).bind fun y => (Gx.idx y j).bind f) Q := by
  have l := h.l
  have := (h.r i i0.1 i0.2).1
  exact Ret.idx i0.1 (by omega) (Ret.idx j0.1 (by omega) hf)

theorem l35Table_eq {t : List (List Int)} {n : Int} (st : Small t) (sr : ∀ r ∈ t, Small r) : M.spec_l35Table t n n = some (decide (Tbl n t)) := by
  apply Ret.ask
  unfold M.spec_l35Table
  simp only [beq_iff_eq]
  refine Ret.ite (fun hl => Ret.bindId ?_) (fun hl => Ret.some ⟨(fun h => by cases h), fun e => absurd e.l hl⟩)
  unfold M.spec_l03Square
  simp only [bne_iff_ne, ne_eq]
  refine Ret.all (t.length : Int) (fun i => RowOk n t i) (by omega) (by omega) ?_ ?_
  · intro i next i0 i1 hp hn
    rw [if_pos (decide_eq_true i1)]
    refine Ret.idx i0 i1 (Ret.ite (fun hb => Ret.some ⟨(fun h => by cases h), fun e => absurd (e.r i i0 (by omega)).1 (by rw [hl] at hb; exact hb)⟩) (fun hb => ?_))
    refine Ret.call (l01Map_eq (sr _ (el_mem i0 i1))) (Ret.ite (fun hc => hn ⟨by have := Decidable.not_not.1 hb; omega, of_decide_eq_true hc⟩) (fun hc => Ret.some ⟨(fun h => by cases h), fun e => absurd (decide_eq_true (e.r i i0 (by omega)).2) hc⟩))
  · intro next hp
    rw [if_neg (by simp)]
    exact Ret.some ⟨fun _ => ⟨hl, fun i i0 i1 => hp i i0 (by omega)⟩, fun _ => rfl⟩

theorem isTable_eq {t : List (List Int)} {n : Int} (st : Small t) (sr : ∀ r ∈ t, Small r) (h0 : -4611686018427387904 ≤ n) (h1 : n ≤ 4611686018427387904) : M.impl_isTable t n = some (decide (Tbl n t)) := by
  apply Ret.ask
  unfold M.impl_isTable
  simp only [bne_iff_ne, ne_eq]
  refine Ret.ite (fun hl => Ret.some ⟨(fun h => by cases h), fun e => absurd e.l hl⟩) (fun hl => ?_)
  have hl := Decidable.not_not.1 hl
  refine Ret.all (t.length : Int) (fun i => RowOk n t i) (by omega) (by omega) ?_ ?_
  · intro i next i0 i1 hp hn
    rw [if_pos (decide_eq_true i1)]
    refine Ret.idx i0 i1 (Ret.ite (fun hb => Ret.some ⟨(fun h => by cases h), fun e => absurd (e.r i i0 (by omega)).1 hb⟩) (fun hb => ?_))
    refine Ret.call (within_eq (sr _ (el_mem i0 i1)) h0 h1) (Ret.ite (fun hc => hn ⟨Decidable.not_not.1 hb, of_decide_eq_true hc⟩) (fun hc => Ret.some ⟨(fun h => by cases h), fun e => absurd (decide_eq_true (e.r i i0 (by omega)).2) hc⟩))
  · intro next hp
    rw [if_neg (by simp)]
    exact Ret.some ⟨fun _ => ⟨hl, fun i i0 i1 => hp i i0 (by omega)⟩, fun _ => rfl⟩

/-- A table with a unit, associative. -/
def Asc (n : Int) (t : List (List Int)) (i : Int) : Prop := ∀ j, 0 ≤ j → j < n → ∀ k, 0 ≤ k → k < n → tb t (tb t i j) k = tb t i (tb t j k)
def WhI (n : Int) (t : List (List Int)) (u i : Int) : Prop := tb t u i = i ∧ tb t i u = i ∧ Asc n t i
def Whole (n : Int) (t : List (List Int)) (u : Int) : Prop := ∀ i, 0 ≤ i → i < n → WhI n t u i

theorem l35Whole_eq {n : Int} {t : List (List Int)} {u : Int} (n0 : 0 ≤ n) (n1 : n ≤ 1024) (h : Tbl n t) (hu : 0 ≤ u ∧ u < n) : M.spec_l35Whole t u = some (decide (Whole n t u)) := by
  apply Ret.ask
  have l := h.l
  have lr : ∀ i, 0 ≤ i → i < n → ((el t i).length : Int) = n := fun i i0 i1 => (h.r i i0 i1).1
  unfold M.spec_l35Whole
  simp only [bne_iff_ne, ne_eq, l]
  refine Ret.all n (fun i => WhI n t u i) n0 (by omega) ?_ ?_
  · intro i next i0 i1 hp hn
    rw [if_pos (decide_eq_true i1)]
    have ru := lr u hu.1 hu.2
    have ri := lr i i0 i1
    refine Ret.idx hu.1 (by omega) (Ret.idx i0 (by omega) (Ret.ite (fun hb => Ret.some ⟨(fun h => by cases h), fun e => absurd (e i i0 i1).1 hb⟩) (fun hb => ?_)))
    refine Ret.idx i0 (by omega) (Ret.idx hu.1 (by omega) (Ret.ite (fun hc => Ret.some ⟨(fun h => by cases h), fun e => absurd (e i i0 i1).2.1 hc⟩) (fun hc => ?_)))
    refine Ret.all n (fun j => ∀ k, 0 ≤ k → k < n → tb t (tb t i j) k = tb t i (tb t j k)) n0 (by omega) ?_ ?_
    · intro j next j0 j1 hq hn2
      rw [if_pos (decide_eq_true j1)]
      refine Ret.all n (fun k => tb t (tb t i j) k = tb t i (tb t j k)) n0 (by omega) ?_ ?_
      · intro k next k0 k1 hr hn3
        rw [if_pos (decide_eq_true k1)]
        have a := h.inn ⟨i0, i1⟩ ⟨j0, j1⟩
        have b := h.inn ⟨j0, j1⟩ ⟨k0, k1⟩
        have ra := lr _ a.1 a.2
        have rj := lr j j0 j1
        refine Ret.idx j0 (by omega) (Ret.idx a.1 (by show tb t i j < _; omega) (Ret.idx k0 (by show k < ((el t (tb t i j)).length : Int); omega) (Ret.idx j0 (by omega) (Ret.idx k0 (by omega) (Ret.idx b.1 (by show tb t j k < _; omega) ?_)))))
        exact Ret.ite (fun hd => Ret.some ⟨(fun h => by cases h), fun e => absurd ((e i i0 i1).2.2 j j0 j1 k k0 k1) hd⟩) (fun hd => hn3 (Decidable.not_not.1 hd))
      · intro next hr
        rw [if_neg (by simp)]
        exact hn2 hr
    · intro next hq
      rw [if_neg (by simp)]
      exact hn ⟨Decidable.not_not.1 hb, Decidable.not_not.1 hc, hq⟩
  · intro next hp
    rw [if_neg (by simp)]
    exact Ret.some ⟨fun _ => hp, fun _ => rfl⟩

theorem isAssociative_eq {n : Int} {t : List (List Int)} {u : Int} (n0 : 0 ≤ n) (n1 : n ≤ 1024) (h : Tbl n t) (hu : 0 ≤ u ∧ u < n) : M.impl_isAssociative t u = some (decide (Whole n t u)) := by
  apply Ret.ask
  have l := h.l
  have lr : ∀ i, 0 ≤ i → i < n → ((el t i).length : Int) = n := fun i i0 i1 => (h.r i i0 i1).1
  unfold M.impl_isAssociative
  simp only [bne_iff_ne, ne_eq, l]
  refine Ret.all n (fun i => WhI n t u i) n0 (by omega) ?_ ?_
  · intro i next i0 i1 hp hn
    rw [if_pos (decide_eq_true i1)]
    have ru := lr u hu.1 hu.2
    have ri := lr i i0 i1
    refine Ret.idx i0 (by omega) (Ret.idx hu.1 (by omega) (Ret.ite (fun hc => Ret.some ⟨(fun h => by cases h), fun e => absurd (e i i0 i1).2.1 hc⟩) (fun hc => ?_)))
    refine Ret.idx hu.1 (by omega) (Ret.idx i0 (by omega) (Ret.ite (fun hb => Ret.some ⟨(fun h => by cases h), fun e => absurd (e i i0 i1).1 hb⟩) (fun hb => ?_)))
    refine Ret.all n (fun j => ∀ k, 0 ≤ k → k < n → tb t (tb t i j) k = tb t i (tb t j k)) n0 (by omega) ?_ ?_
    · intro j next j0 j1 hq hn2
      rw [if_pos (decide_eq_true j1)]
      refine Ret.all n (fun k => tb t (tb t i j) k = tb t i (tb t j k)) n0 (by omega) ?_ ?_
      · intro k next k0 k1 hr hn3
        rw [if_pos (decide_eq_true k1)]
        have a := h.inn ⟨i0, i1⟩ ⟨j0, j1⟩
        have b := h.inn ⟨j0, j1⟩ ⟨k0, k1⟩
        have ra := lr _ a.1 a.2
        have rj := lr j j0 j1
        refine Ret.idx j0 (by omega) (Ret.idx a.1 (by show tb t i j < _; omega) (Ret.idx k0 (by show k < ((el t (tb t i j)).length : Int); omega) (Ret.idx j0 (by omega) (Ret.idx k0 (by omega) (Ret.idx b.1 (by show tb t j k < _; omega) ?_)))))
        exact Ret.ite (fun hd => Ret.some ⟨(fun h => by cases h), fun e => absurd ((e i i0 i1).2.2 j j0 j1 k k0 k1) hd⟩) (fun hd => hn3 (Decidable.not_not.1 hd))
      · intro next hr
        rw [if_neg (by simp)]
        exact hn2 hr
    · intro next hq
      rw [if_neg (by simp)]
      exact hn ⟨Decidable.not_not.1 hb, Decidable.not_not.1 hc, hq⟩
  · intro next hp
    rw [if_neg (by simp)]
    exact Ret.some ⟨fun _ => hp, fun _ => rfl⟩

/-! ### monoidal categories -/
abbrev mA (m : XMonoidal) (f g : Int) : Int := tb m.Arrows f g
abbrev mO (m : XMonoidal) (x y : Int) : Int := tb m.Objects x y
def EndM (m : XMonoidal) (f g : Int) : Prop := el m.On.From (mA m f g) = mO m (el m.On.From f) (el m.On.From g) ∧ el m.On.To (mA m f g) = mO m (el m.On.To f) (el m.On.To g)
def IdM (m : XMonoidal) (x y : Int) : Prop := mA m (el m.On.Identity x) (el m.On.Identity y) = el m.On.Identity (mO m x y)
def IntM (m : XMonoidal) (f h g k : Int) : Prop := el m.On.To f = el m.On.From h → el m.On.To g = el m.On.From k → mA m (cmp m.On f h) (cmp m.On g k) = cmp m.On (mA m f g) (mA m h k)
/-- Its tables. -/
structure TabM (m : XMonoidal) : Prop where
  cat : IsCat m.On
  u : 0 ≤ m.Unit ∧ m.Unit < m.On.Objects
  o : Tbl m.On.Objects m.Objects
  a : Tbl (m.On.From.length : Int) m.Arrows
structure IsTen (m : XMonoidal) : Prop where
  t : TabM m
  e : ∀ f, 0 ≤ f → f < (m.On.From.length : Int) → ∀ g, 0 ≤ g → g < (m.On.From.length : Int) → EndM m f g
  wo : Whole m.On.Objects m.Objects m.Unit
  wa : Whole (m.On.From.length : Int) m.Arrows (el m.On.Identity m.Unit)
  i : ∀ x, 0 ≤ x → x < m.On.Objects → ∀ y, 0 ≤ y → y < m.On.Objects → IdM m x y
  c : ∀ f, 0 ≤ f → f < (m.On.From.length : Int) → ∀ h, 0 ≤ h → h < (m.On.From.length : Int) → ∀ g, 0 ≤ g → g < (m.On.From.length : Int) → ∀ k, 0 ≤ k → k < (m.On.From.length : Int) → IntM m f h g k

theorem cmp_sign {c : XCategory} (h : Shp c) {i j : Int} (i0 : 0 ≤ i) (i1 : i < (c.From.length : Int)) (j0 : 0 ≤ j) (j1 : j < (c.From.length : Int)) : 0 ≤ cmp c i j ↔ el c.To i = el c.From j := by
  constructor
  · intro h0
    apply Decidable.byContradiction
    intro hne
    have := h.no i j i0 i1 j0 j1 hne
    omega
  · intro e
    exact (h.yes i j i0 i1 j0 j1 e).1

theorem l35Ends_eq {m : XMonoidal} (t : TabM m) : M.spec_l35Ends m = some (decide (∀ f, 0 ≤ f → f < (m.On.From.length : Int) → ∀ g, 0 ≤ g → g < (m.On.From.length : Int) → EndM m f g)) := by
  apply Ret.ask
  have hS := t.cat.1.shp
  have m40 := hS.m40
  have lto := hS.lto
  unfold M.spec_l35Ends
  simp only [bne_iff_ne, ne_eq]
  refine Ret.all (m.On.From.length : Int) (fun f => ∀ g, 0 ≤ g → g < (m.On.From.length : Int) → EndM m f g) (by omega) (by omega) ?_ ?_
  · intro f next f0 f1 hp hn
    rw [if_pos (decide_eq_true f1)]
    refine Ret.all (m.On.From.length : Int) (fun g => EndM m f g) (by omega) (by omega) ?_ ?_
    · intro g next g0 g1 hq hn2
      rw [if_pos (decide_eq_true g1)]
      have a := t.a.inn ⟨f0, f1⟩ ⟨g0, g1⟩
      refine t.a.idx ⟨f0, f1⟩ ⟨g0, g1⟩ (Ret.idx a.1 a.2 (Ret.idx f0 f1 ?_))
      have ff := hS.from_in f f0 f1
      have fg := hS.from_in g g0 g1
      have tf := hS.to_in f f0 f1
      have tg := hS.to_in g g0 g1
      have lo := t.o.l
      have r1 := (t.o.r _ ff.1 ff.2).1
      have r2 := (t.o.r _ tf.1 tf.2).1
      refine Ret.idx ff.1 (by omega) (Ret.idx g0 g1 (Ret.idx fg.1 (by omega) (Ret.ite (fun hb => Ret.some ⟨(fun h => by cases h), fun e => absurd (e f f0 f1 g g0 g1).1 hb⟩) (fun hb => ?_))))
      refine Ret.idx a.1 (by omega) (Ret.idx f0 (by omega) (Ret.idx tf.1 (by omega) (Ret.idx g0 (by omega) (Ret.idx tg.1 (by omega) (Ret.ite (fun hc => Ret.some ⟨(fun h => by cases h), fun e => absurd (e f f0 f1 g g0 g1).2 hc⟩) (fun hc => hn2 ⟨Decidable.not_not.1 hb, Decidable.not_not.1 hc⟩))))))
    · intro next hq
      rw [if_neg (by simp)]
      exact hn hq
  · intro next hp
    rw [if_neg (by simp)]
    exact Ret.some ⟨fun _ => hp, fun _ => rfl⟩

theorem l35Is_eq {m : XMonoidal} (sm : SmallO m) : M.spec_l35Is m = some (decide (IsTen m)) := by
  apply Ret.ask
  unfold M.spec_l35Is
  simp only [bne_iff_ne, ne_eq]
  refine Ret.call (l02Is_eq sm.s1) (Ret.ite (fun h1 => ?_) (fun h => Ret.some ⟨(fun h => by cases h), fun e => absurd (decide_eq_true e.t.cat) h⟩))
  have h1 := of_decide_eq_true h1
  refine Ret.call (l02Object_eq _ _) (Ret.ite (fun h2 => ?_) (fun h => Ret.some ⟨(fun h => by cases h), fun e => absurd (decide_eq_true e.t.u) h⟩))
  have h2 := of_decide_eq_true h2
  refine Ret.call (l35Table_eq sm.s2 sm.s3) (Ret.ite (fun h3 => ?_) (fun h => Ret.some ⟨(fun h => by cases h), fun e => absurd (decide_eq_true e.t.o) h⟩))
  have h3 := of_decide_eq_true h3
  refine Ret.call (l35Table_eq sm.s4 sm.s5) (Ret.ite (fun h4 => ?_) (fun h => Ret.some ⟨(fun h => by cases h), fun e => absurd (decide_eq_true e.t.a) h⟩))
  have h4 := of_decide_eq_true h4
  have t : TabM m := ⟨h1, h2, h3, h4⟩
  have hS := h1.1.shp
  have m40 := hS.m40
  have n0 := hS.n0
  have n8 := hS.n8
  have lid := hS.lid
  have lco := hS.lco
  refine Ret.call (l35Ends_eq t) (Ret.ite (fun h5 => ?_) (fun h => Ret.some ⟨(fun h => by cases h), fun e => absurd (decide_eq_true e.e) h⟩))
  have h5 := of_decide_eq_true h5
  refine Ret.call (l35Whole_eq n0 (by omega) h3 h2) (Ret.ite (fun h6 => ?_) (fun h => Ret.some ⟨(fun h => by cases h), fun e => absurd (decide_eq_true e.wo) h⟩))
  have h6 := of_decide_eq_true h6
  have iu := hS.id_in _ h2.1 h2.2
  refine Ret.idx h2.1 (by omega) (Ret.call (l35Whole_eq (by omega) (by omega) h4 iu) (Ret.ite (fun h7 => ?_) (fun h => Ret.some ⟨(fun h => by cases h), fun e => absurd (decide_eq_true e.wa) h⟩)))
  have h7 := of_decide_eq_true h7
  refine Ret.all m.On.Objects (fun x => ∀ y, 0 ≤ y → y < m.On.Objects → IdM m x y) n0 (by omega) ?_ ?_
  · intro x next x0 x1 hp hn
    rw [if_pos (decide_eq_true x1)]
    refine Ret.all m.On.Objects (fun y => IdM m x y) n0 (by omega) ?_ ?_
    · intro y next y0 y1 hq hn2
      rw [if_pos (decide_eq_true y1)]
      have ix := hS.id_in x x0 x1
      have iy := hS.id_in y y0 y1
      have la := t.a.l
      have ra := (t.a.r _ ix.1 ix.2).1
      have o := t.o.inn ⟨x0, x1⟩ ⟨y0, y1⟩
      refine Ret.idx x0 (by omega) (Ret.idx ix.1 (by omega) (Ret.idx y0 (by omega) (Ret.idx iy.1 (by omega) (t.o.idx ⟨x0, x1⟩ ⟨y0, y1⟩ (Ret.idx o.1 (by omega) ?_)))))
      exact Ret.ite (fun hb => Ret.some ⟨(fun h => by cases h), fun e => absurd (e.i x x0 x1 y y0 y1) hb⟩) (fun hb => hn2 (Decidable.not_not.1 hb))
    · intro next hq
      rw [if_neg (by simp)]
      exact hn hq
  intro next h8
  rw [if_neg (by simp)]
  refine Ret.all (m.On.From.length : Int) (fun f => ∀ h, 0 ≤ h → h < (m.On.From.length : Int) → ∀ g, 0 ≤ g → g < (m.On.From.length : Int) → ∀ k, 0 ≤ k → k < (m.On.From.length : Int) → IntM m f h g k) (by omega) (by omega) ?_ ?_
  · intro f next f0 f1 hp hn
    rw [if_pos (decide_eq_true f1)]
    refine Ret.all (m.On.From.length : Int) (fun h => ∀ g, 0 ≤ g → g < (m.On.From.length : Int) → ∀ k, 0 ≤ k → k < (m.On.From.length : Int) → IntM m f h g k) (by omega) (by omega) ?_ ?_
    · intro h next j0 j1 hq hn2
      rw [if_pos (decide_eq_true j1)]
      have rf := hS.row f f0 f1
      refine Ret.idx f0 (by omega) (Ret.idx j0 (by omega) (Ret.ite (fun hb => hn2 fun g g0 g1 k k0 k1 e => ?_) (fun hb => ?_)))
      · have := (cmp_sign hS f0 f1 j0 j1).2 e
        have hb := of_decide_eq_true hb
        exact absurd this (Int.not_le.2 hb)
      have hfh : 0 ≤ cmp m.On f h := Int.not_lt.1 fun x => hb (decide_eq_true x)
      have efh := (cmp_sign hS f0 f1 j0 j1).1 hfh
      have c1 := hS.yes f h f0 f1 j0 j1 efh
      refine Ret.all (m.On.From.length : Int) (fun g => ∀ k, 0 ≤ k → k < (m.On.From.length : Int) → IntM m f h g k) (by omega) (by omega) ?_ ?_
      · intro g next g0 g1 hr hn3
        rw [if_pos (decide_eq_true g1)]
        refine Ret.all (m.On.From.length : Int) (fun k => IntM m f h g k) (by omega) (by omega) ?_ ?_
        · intro k next k0 k1 hs hn4
          rw [if_pos (decide_eq_true k1)]
          have rg := hS.row g g0 g1
          refine Ret.idx g0 (by omega) (Ret.idx k0 (by omega) (Ret.ite (fun hc => ?_) (fun hc => hn4 fun _ e => ?_)))
          · have hgk : 0 ≤ cmp m.On g k := of_decide_eq_true hc
            have egk := (cmp_sign hS g0 g1 k0 k1).1 hgk
            have c2 := hS.yes g k g0 g1 k0 k1 egk
            have a1 := t.a.inn ⟨f0, f1⟩ ⟨g0, g1⟩
            have a2 := t.a.inn ⟨j0, j1⟩ ⟨k0, k1⟩
            have ra1 := hS.row _ a1.1 a1.2
            have la := t.a.l
            have rh := (t.a.r h j0 j1).1
            refine t.a.idx c1 c2 (t.a.idx ⟨f0, f1⟩ ⟨g0, g1⟩ (Ret.idx a1.1 (by omega) (Ret.idx j0 (by omega) (Ret.idx k0 (by omega) (Ret.idx a2.1 (by show tb m.Arrows h k < ((el m.On.Composites (tb m.Arrows f g)).length : Int); omega) ?_)))))
            exact Ret.ite (fun hd => Ret.some ⟨(fun h => by cases h), fun e => absurd (e.c f f0 f1 h j0 j1 g g0 g1 k k0 k1 efh egk) hd⟩) (fun hd => hn4 fun _ _ => Decidable.not_not.1 hd)
          · exact absurd ((cmp_sign hS g0 g1 k0 k1).2 e) (fun x => hc (decide_eq_true x))
        · intro next hs
          rw [if_neg (by simp)]
          exact hn3 hs
      · intro next hr
        rw [if_neg (by simp)]
        exact hn2 hr
    · intro next hq
      rw [if_neg (by simp)]
      exact hn hq
  · intro next h9
    rw [if_neg (by simp)]
    exact Ret.some ⟨fun _ => ⟨t, h5, h6, h7, h8, h9⟩, fun _ => rfl⟩

/-! ### as impl asks it -/
def Idn (c : XCategory) (f : Int) : Prop := el c.Identity (el c.From f) = f
theorem isIdentity_eq {c : XCategory} (h : Shp c) {f : Int} (f0 : 0 ≤ f) (f1 : f < (c.From.length : Int)) : M.impl_Category_isIdentity c f = some (decide (Idn c f)) := by
  have a := h.from_in f f0 f1
  have l := h.lid
  unfold M.impl_Category_isIdentity
  rw [idx_el f0 f1]
  show (idx c.Identity (el c.From f)).bind _ = _
  rw [idx_el a.1 (by omega)]
  show some (el c.Identity (el c.From f) == f) = some (decide (Idn c f))
  congr 1
  rw [Bool.eq_iff_iff, beq_iff_eq, decide_eq_true_iff]; rfl

def OneM (m : XMonoidal) (f g : Int) : Prop := EndM m f g ∧ (Idn m.On f → Idn m.On g → Idn m.On (mA m f g))
theorem ids_of {m : XMonoidal} (t : TabM m) (h : ∀ f, 0 ≤ f → f < (m.On.From.length : Int) → ∀ g, 0 ≤ g → g < (m.On.From.length : Int) → OneM m f g) : ∀ x, 0 ≤ x → x < m.On.Objects → ∀ y, 0 ≤ y → y < m.On.Objects → IdM m x y := by
  intro x x0 x1 y y0 y1
  have hS := t.cat.1.shp
  have ix := hS.id_in x x0 x1
  have iy := hS.id_in y y0 y1
  have fx := hS.id_from x x0 x1
  have fy := hS.id_from y y0 y1
  obtain ⟨h1, h2⟩ := h _ ix.1 ix.2 _ iy.1 iy.2
  have h3 := h2 (by unfold Idn; rw [fx]) (by unfold Idn; rw [fy])
  unfold Idn at h3
  unfold IdM
  rw [← h3, h1.1, fx, fy]
theorem one_of {m : XMonoidal} (h : IsTen m) : ∀ f, 0 ≤ f → f < (m.On.From.length : Int) → ∀ g, 0 ≤ g → g < (m.On.From.length : Int) → OneM m f g := by
  intro f f0 f1 g g0 g1
  have hS := h.t.cat.1.shp
  have ff := hS.from_in f f0 f1
  have fg := hS.from_in g g0 g1
  have e := h.e f f0 f1 g g0 g1
  refine ⟨e, fun hf hg => ?_⟩
  have := h.i _ ff.1 ff.2 _ fg.1 fg.2
  unfold Idn at *
  unfold IdM at this
  rw [hf, hg] at this
  rw [e.1, this]

theorem interchanges_eq {m : XMonoidal} (t : TabM m) :
    M.impl_Monoidal_interchanges m = some (decide (∀ f, 0 ≤ f → f < (m.On.From.length : Int) → ∀ h, 0 ≤ h → h < (m.On.From.length : Int) → ∀ g, 0 ≤ g → g < (m.On.From.length : Int) → ∀ k, 0 ≤ k → k < (m.On.From.length : Int) → IntM m f h g k)) := by
  apply Ret.ask
  have hS := t.cat.1.shp
  have m40 := hS.m40
  have lto := hS.lto
  have lco := hS.lco
  have so : Small m.On.From := by unfold Small; omega
  have la := t.a.l
  have memO : ∀ {x : Int}, ∀ s ∈ (fil (m.On.From.length : Int) fun s => el m.On.From s == x), 0 ≤ s ∧ s < (m.On.From.length : Int) ∧ el m.On.From s = x := fun s hs => by
    have := fil_mem.1 hs
    exact ⟨this.1, this.2.1, by simpa using this.2.2⟩
  unfold M.impl_Monoidal_interchanges
  simp only [bne_iff_ne, ne_eq]
  refine Ret.all (m.On.From.length : Int) (fun f => ∀ h, 0 ≤ h → h < (m.On.From.length : Int) → ∀ g, 0 ≤ g → g < (m.On.From.length : Int) → ∀ k, 0 ≤ k → k < (m.On.From.length : Int) → IntM m f h g k) (by omega) (by omega) ?_ ?_
  · intro f next f0 f1 hp hn
    rw [if_pos (decide_eq_true f1)]
    have l1 := fil_length_le (m.On.From.length : Int) fun s => el m.On.From s == el m.On.To f
    refine Ret.idx f0 (by omega) (Ret.call (outOf_eq so _) ?_)
    have mem1 := memO (x := el m.On.To f)
    have all1 : ∀ h, 0 ≤ h → h < (m.On.From.length : Int) → el m.On.To f = el m.On.From h → h ∈ (fil (m.On.From.length : Int) fun s => el m.On.From s == el m.On.To f) := fun h j0 j1 e => fil_mem.2 ⟨j0, j1, by simp [e]⟩
    generalize (fil (m.On.From.length : Int) fun s => el m.On.From s == el m.On.To f) = L at l1 mem1 all1 ⊢
    refine Ret.all (L.length : Int) (fun i => ∀ g, 0 ≤ g → g < (m.On.From.length : Int) → ∀ k, 0 ≤ k → k < (m.On.From.length : Int) → IntM m f (el L i) g k) (by omega) (by omega) ?_ ?_
    · intro i next i0 i1 hq hn2
      rw [if_pos (decide_eq_true i1)]
      obtain ⟨j0, j1, e1⟩ := mem1 _ (el_mem i0 i1)
      refine Ret.idx i0 i1 ?_
      generalize el L i = h at j0 j1 e1 hn2 ⊢
      refine Ret.all (m.On.From.length : Int) (fun g => ∀ k, 0 ≤ k → k < (m.On.From.length : Int) → IntM m f h g k) (by omega) (by omega) ?_ ?_
      · intro g next g0 g1 hr hn3
        rw [if_pos (decide_eq_true g1)]
        have l2 := fil_length_le (m.On.From.length : Int) fun s => el m.On.From s == el m.On.To g
        refine Ret.idx g0 (by omega) (Ret.call (outOf_eq so _) ?_)
        have mem2 := memO (x := el m.On.To g)
        have all2 : ∀ h, 0 ≤ h → h < (m.On.From.length : Int) → el m.On.To g = el m.On.From h → h ∈ (fil (m.On.From.length : Int) fun s => el m.On.From s == el m.On.To g) := fun h j0 j1 e => fil_mem.2 ⟨j0, j1, by simp [e]⟩
        generalize (fil (m.On.From.length : Int) fun s => el m.On.From s == el m.On.To g) = L2 at l2 mem2 all2 ⊢
        refine Ret.all (L2.length : Int) (fun i => IntM m f h g (el L2 i)) (by omega) (by omega) ?_ ?_
        · intro i2 next b0 b1 hs hn4
          rw [if_pos (decide_eq_true b1)]
          obtain ⟨k0, k1, e2⟩ := mem2 _ (el_mem b0 b1)
          refine Ret.idx b0 b1 ?_
          generalize el L2 i2 = k at k0 k1 e2 hn4 ⊢
          have c1 := hS.yes f h f0 f1 j0 j1 e1.symm
          have c2 := hS.yes g k g0 g1 k0 k1 e2.symm
          have a1 := t.a.inn ⟨f0, f1⟩ ⟨g0, g1⟩
          have a2 := t.a.inn ⟨j0, j1⟩ ⟨k0, k1⟩
          have r1 := (t.a.r _ c1.1 c1.2).1
          have rf := hS.row f f0 f1
          have rg := hS.row g g0 g1
          have ra1 := hS.row _ a1.1 a1.2
          refine Ret.call (then_eq f0 (by omega) j0 (by omega)) (Ret.idx c1.1 (by omega) (Ret.call (then_eq g0 (by omega) k0 (by omega)) (Ret.idx c2.1 (by omega) ?_)))
          refine t.a.idx ⟨f0, f1⟩ ⟨g0, g1⟩ (t.a.idx ⟨j0, j1⟩ ⟨k0, k1⟩ (Ret.call (then_eq a1.1 (by omega) a2.1 (by omega)) ?_))
          exact Ret.ite (fun hd => Ret.some ⟨(fun h => by cases h), fun e => absurd (e f f0 f1 h j0 j1 g g0 g1 k k0 k1 e1.symm e2.symm) hd⟩) (fun hd => hn4 fun _ _ => Decidable.not_not.1 hd)
        · intro next hs
          rw [if_neg (by simp)]
          refine hn3 fun k k0 k1 ea eb => ?_
          obtain ⟨i2, b0, b1, e⟩ := mem_el (all2 k k0 k1 eb)
          have := hs i2 b0 b1
          rw [e] at this
          exact this ea eb
      · intro next hr
        rw [if_neg (by simp)]
        exact hn2 hr
    · intro next hq
      rw [if_neg (by simp)]
      refine hn fun h j0 j1 g g0 g1 k k0 k1 ea eb => ?_
      obtain ⟨i, b0, b1, e⟩ := mem_el (all1 h j0 j1 ea)
      have := hq i b0 b1 g g0 g1 k k0 k1
      rw [e] at this
      exact this ea eb
  · intro next hp
    rw [if_neg (by simp)]
    exact Ret.some ⟨fun _ => hp, fun _ => rfl⟩

theorem isMonoidal_eq {m : XMonoidal} (sm : SmallO m) : M.impl_Monoidal_isMonoidal m = some (decide (IsTen m)) := by
  apply Ret.ask
  unfold M.impl_Monoidal_isMonoidal M.impl_Category_arrows
  simp only [Option.bind_some]
  refine Ret.call (isCategory_eq sm.s1) (Ret.ite (fun h1 => ?_) (fun h => Ret.some ⟨(fun h => by cases h), fun e => absurd (decide_eq_true e.t.cat) h⟩))
  have h1 := of_decide_eq_true h1
  have hS := h1.1.shp
  have m40 := hS.m40
  have n0 := hS.n0
  have n8 := hS.n8
  have lid := hS.lid
  have lto := hS.lto
  have lco := hS.lco
  refine Ret.call (inR_eq n0 (by omega)) (Ret.ite (fun h2 => ?_) (fun h => Ret.some ⟨(fun h => by cases h), fun e => absurd (decide_eq_true e.t.u) h⟩))
  have h2 := of_decide_eq_true h2
  refine Ret.call (isTable_eq sm.s2 sm.s3 (by omega) (by omega)) (Ret.ite (fun h3 => ?_) (fun h => Ret.some ⟨(fun h => by cases h), fun e => absurd (decide_eq_true e.t.o) h⟩))
  have h3 := of_decide_eq_true h3
  refine Ret.call (isTable_eq sm.s4 sm.s5 (by omega) (by omega)) (Ret.ite (fun h4 => ?_) (fun h => Ret.some ⟨(fun h => by cases h), fun e => absurd (decide_eq_true e.t.a) h⟩))
  have h4 := of_decide_eq_true h4
  have t : TabM m := ⟨h1, h2, h3, h4⟩
  have la := t.a.l
  have lo := t.o.l
  refine Ret.all (m.Arrows.length : Int) (fun f => ∀ g, 0 ≤ g → g < (m.On.From.length : Int) → OneM m f g) (by omega) (by omega) ?_ ?_
  · intro f next f0 f1' hp hn
    rw [if_pos (decide_eq_true f1')]
    have f1 : f < (m.On.From.length : Int) := by omega
    have rf := (t.a.r f f0 f1).1
    refine Ret.idx f0 (by omega) (Ret.all ((el m.Arrows f).length : Int) (fun g => OneM m f g) (by omega) (by omega) ?_ ?_)
    · intro g next g0 g1' hq hn2
      rw [if_pos (decide_eq_true g1')]
      have g1 : g < (m.On.From.length : Int) := by omega
      have a := t.a.inn ⟨f0, f1⟩ ⟨g0, g1⟩
      have ff := hS.from_in f f0 f1
      have fg := hS.from_in g g0 g1
      have tf := hS.to_in f f0 f1
      have tg := hS.to_in g g0 g1
      have r1 := (t.o.r _ ff.1 ff.2).1
      have r2 := (t.o.r _ tf.1 tf.2).1
      refine Ret.idx g0 (by omega) (Ret.call (ends_eq a.1 a.2 (show tb m.Arrows f g < (m.On.To.length : Int) by omega)) (Ret.idx f0 f1 (Ret.idx ff.1 (by omega) (Ret.idx g0 g1 (Ret.idx fg.1 (by omega) (Ret.idx f0 (by omega) (Ret.idx tf.1 (by omega) (Ret.idx g0 (by omega) (Ret.idx tg.1 (by omega) ?_)))))))))
      refine Ret.ite (fun hb => Ret.some ⟨(fun h => by cases h), fun e => ?_⟩) (fun hb => ?_)
      · have := e.e f f0 f1 g g0 g1
        unfold EndM at this
        simp [this.1, this.2] at hb
      have he : EndM m f g := by
        unfold EndM
        simpa using hb
      refine Ret.call (isIdentity_eq hS f0 f1) (Ret.ite (fun hi => ?_) (fun hi => hn2 ⟨he, fun x => absurd (decide_eq_true x) hi⟩))
      refine Ret.call (isIdentity_eq hS g0 g1) (Ret.ite (fun hj => ?_) (fun hj => hn2 ⟨he, fun _ x => absurd (decide_eq_true x) hj⟩))
      refine Ret.call (isIdentity_eq hS a.1 a.2) (Ret.ite (fun hk => hn2 ⟨he, fun _ _ => of_decide_eq_true hk⟩) (fun hk => Ret.some ⟨(fun h => by cases h), fun e => ?_⟩))
      exact absurd (decide_eq_true ((one_of e f f0 f1 g g0 g1).2 (of_decide_eq_true hi) (of_decide_eq_true hj))) hk
    · intro next hq
      rw [if_neg (by simp)]
      exact hn fun g g0 g1 => hq g g0 (by omega)
  intro next hp
  rw [if_neg (by simp)]
  have h5 : ∀ f, 0 ≤ f → f < (m.On.From.length : Int) → ∀ g, 0 ≤ g → g < (m.On.From.length : Int) → OneM m f g := fun f f0 f1 => hp f f0 (by omega)
  have he : ∀ f, 0 ≤ f → f < (m.On.From.length : Int) → ∀ g, 0 ≤ g → g < (m.On.From.length : Int) → EndM m f g := fun f f0 f1 g g0 g1 => (h5 f f0 f1 g g0 g1).1
  refine Ret.call (isAssociative_eq n0 (by omega) h3 h2) (Ret.ite (fun h6 => ?_) (fun h => Ret.some ⟨(fun h => by cases h), fun e => absurd (decide_eq_true e.wo) h⟩))
  have h6 := of_decide_eq_true h6
  have iu := hS.id_in _ h2.1 h2.2
  refine Ret.idx h2.1 (by omega) (Ret.call (isAssociative_eq (by omega) (by omega) h4 iu) (Ret.ite (fun h7 => ?_) (fun h => Ret.some ⟨(fun h => by cases h), fun e => absurd (decide_eq_true e.wa) h⟩)))
  have h7 := of_decide_eq_true h7
  refine Ret.call (interchanges_eq t) (Ret.some ?_)
  rw [decide_eq_true_iff]
  exact ⟨fun h9 => ⟨t, he, h6, h7, ids_of t h5, h9⟩, fun e => e.c⟩

/-! ### the functor behind an object -/
def behF (m : XMonoidal) (y : Int) : XFunctor := ⟨m.On, m.On, tab m.On.Objects fun x => mO m x y, tab (m.On.From.length : Int) fun f => mA m f (el m.On.Identity y)⟩
theorem behF_small {m : XMonoidal} (sm : SmallO m) (h : IsTen m) (y : Int) : SmallF (behF m y) := by
  have m40 := h.t.cat.1.shp.m40
  have n8 := h.t.cat.1.shp.n8
  refine ⟨sm.s1, sm.s1, ?_, ?_⟩
  · show ((tab m.On.Objects fun x => mO m x y).length : Int) ≤ _
    rw [tab_length]; omega
  · show ((tab (m.On.From.length : Int) fun f => mA m f (el m.On.Identity y)).length : Int) ≤ _
    rw [tab_length]; omega
theorem l35Behind_eq {m : XMonoidal} (sm : SmallO m) (h : IsTen m) {y : Int} (y0 : 0 ≤ y) (y1 : y < m.On.Objects) : M.spec_l35Behind m y = some (behF m y) := by
  apply Ret.eq
  have hS := h.t.cat.1.shp
  have m40 := hS.m40
  have n0 := hS.n0
  have n8 := hS.n8
  have lid := hS.lid
  have lo := h.t.o.l
  have la := h.t.a.l
  have iy := hS.id_in y y0 y1
  unfold M.spec_l35Behind
  refine push_loop (n := m.On.Objects) (F := fun x => mO m x y) n0 (by omega) ?_ ?_
  · intro i next i0 i1 hl hn
    dsimp only
    rw [if_pos (decide_eq_true (by omega))]
    refine h.t.o.idx ⟨i0, i1⟩ ⟨y0, y1⟩ (Ret.chk ?_ hn)
    unfold lim; simp only [List.length_cons, List.length_nil]; omega
  intro next
  dsimp only
  rw [if_neg (fun x => absurd (of_decide_eq_true x) (by omega))]
  refine push_loop (n := (m.On.From.length : Int)) (F := fun f => mA m f (el m.On.Identity y)) (by omega) (by omega) ?_ ?_
  · intro i next i0 i1 hl hn
    dsimp only
    rw [if_pos (decide_eq_true (by omega))]
    have r := (h.t.a.r i i0 i1).1
    refine Ret.idx i0 (by omega) (Ret.idx y0 (by omega) (Ret.idx iy.1 (by omega) (Ret.chk ?_ hn)))
    unfold lim; simp only [List.length_cons, List.length_nil]; omega
  · intro next
    dsimp only
    rw [if_neg (fun x => absurd (of_decide_eq_true x) (by omega))]
    have sb := behF_small sm h y
    have e : M.spec_l06Make m.On m.On (tab m.On.Objects fun x => mO m x y) (tab (m.On.From.length : Int) fun f => mA m f (el m.On.Identity y)) = some (behF m y) := l06Make_eq sm.s1 sm.s1 sb.s3 sb.s4
    rw [e]
    exact Ret.some rfl
theorem column_eq {n : Int} {t : List (List Int)} (n0 : 0 ≤ n) (n1 : n ≤ 1024) (h : Tbl n t) {y : Int} (y0 : 0 ≤ y) (y1 : y < n) : M.impl_column t y = some (tab n fun i => tb t i y) := by
  apply Ret.eq
  have l := h.l
  unfold M.impl_column
  refine push_loop (n := n) (F := fun i => tb t i y) n0 (by omega) ?_ ?_
  · intro i next i0 i1 hl hn
    dsimp only
    rw [if_pos (decide_eq_true (by omega))]
    refine h.idx ⟨i0, i1⟩ ⟨y0, y1⟩ (Ret.chk ?_ hn)
    unfold lim; simp only [List.length_cons, List.length_nil]; omega
  · intro next
    dsimp only
    rw [if_neg (fun x => absurd (of_decide_eq_true x) (by omega))]
    exact Ret.some rfl
theorem behind_eq {m : XMonoidal} (sm : SmallO m) (h : IsTen m) {y : Int} (y0 : 0 ≤ y) (y1 : y < m.On.Objects) : M.impl_Monoidal_behind m y = some (behF m y) := by
  have hS := h.t.cat.1.shp
  have m40 := hS.m40
  have n0 := hS.n0
  have n8 := hS.n8
  have lid := hS.lid
  have iy := hS.id_in y y0 y1
  have sb := behF_small sm h y
  unfold M.impl_Monoidal_behind
  rw [column_eq n0 (by omega) h.t.o y0 y1]
  show (idx m.On.Identity y).bind _ = _
  rw [idx_el y0 (by omega)]
  show (M.impl_column m.Arrows (el m.On.Identity y)).bind _ = _
  rw [column_eq (by omega) (by omega) h.t.a iy.1 iy.2]
  show (M.impl_functor m.On m.On (tab m.On.Objects fun x => mO m x y) (tab (m.On.From.length : Int) fun f => mA m f (el m.On.Identity y))).bind _ = _
  have e : M.impl_functor m.On m.On (tab m.On.Objects fun x => mO m x y) (tab (m.On.From.length : Int) fun f => mA m f (el m.On.Identity y)) = some (behF m y) := functor_eq sm.s1 sm.s1 sb.s3 sb.s4
  rw [e]; rfl

theorem behF_fun {m : XMonoidal} (h : IsTen m) {y : Int} (y0 : 0 ≤ y) (y1 : y < m.On.Objects) : IsFun (behF m y) := by
  have hS := h.t.cat.1.shp
  have n0 := hS.n0
  have iy := hS.id_in y y0 y1
  have fy := hS.id_from y y0 y1
  have ty := hS.id_to y y0 y1
  have eo : ∀ x, 0 ≤ x → x < m.On.Objects → el (behF m y).Objects x = mO m x y := fun x x0 x1 => by
    show el (tab m.On.Objects fun x => mO m x y) x = _
    rw [el_tab x0 x1]
  have ea : ∀ f, 0 ≤ f → f < (m.On.From.length : Int) → el (behF m y).Arrows f = mA m f (el m.On.Identity y) := fun f f0 f1 => by
    show el (tab (m.On.From.length : Int) fun f => mA m f (el m.On.Identity y)) f = _
    rw [el_tab f0 f1]
  have lo : ((behF m y).Objects.length : Int) = m.On.Objects := by
    show ((tab m.On.Objects fun x => mO m x y).length : Int) = _
    exact tab_len' _ _ n0
  have la : ((behF m y).Arrows.length : Int) = (m.On.From.length : Int) := by
    show ((tab (m.On.From.length : Int) fun f => mA m f (el m.On.Identity y)).length : Int) = _
    exact tab_len' _ _ (by omega)
  have cyy : cmp m.On (el m.On.Identity y) (el m.On.Identity y) = el m.On.Identity y := by
    have := (h.t.cat.2.1 _ iy.1 iy.2).1
    rwa [fy] at this
  refine ⟨h.t.cat, h.t.cat, lo, la, fun x x0 x1 => ?_, fun f f0 f1 => ?_, fun f f0 f1 => ?_, fun f f0 f1 => ?_, fun x x0 x1 => ?_, fun f g f0 f1 g0 g1 e => ?_⟩
  · rw [lo] at x1
    rw [eo x x0 x1]
    exact h.t.o.inn ⟨x0, x1⟩ ⟨y0, y1⟩
  · rw [la] at f1
    rw [ea f f0 f1]
    exact h.t.a.inn ⟨f0, f1⟩ iy
  · have ff := hS.from_in f f0 f1
    rw [ea f f0 f1, show (behF m y).Target = m.On from rfl, show (behF m y).Source = m.On from rfl, eo _ ff.1 ff.2, (h.e f f0 f1 _ iy.1 iy.2).1, fy]
  · have ff := hS.to_in f f0 f1
    rw [ea f f0 f1, show (behF m y).Target = m.On from rfl, show (behF m y).Source = m.On from rfl, eo _ ff.1 ff.2, (h.e f f0 f1 _ iy.1 iy.2).2, ty]
  · have ix := hS.id_in x x0 x1
    rw [show (behF m y).Source = m.On from rfl, show (behF m y).Target = m.On from rfl, ea _ ix.1 ix.2, eo x x0 x1]
    exact h.i x x0 x1 y y0 y1
  · have c := hS.yes f g f0 f1 g0 g1 e
    rw [show (behF m y).Source = m.On from rfl, show (behF m y).Target = m.On from rfl, ea _ c.1 c.2, ea f f0 f1, ea g g0 g1]
    have := h.c f f0 f1 g g0 g1 _ iy.1 iy.2 _ iy.1 iy.2 e (by rw [ty, fy])
    rwa [cyy] at this
end Go.Gx

/- The law of IsClosed. -/
namespace Go.Gx
open Classical
set_option maxHeartbeats 1000000

def Closed (m : XMonoidal) : Prop := ∀ x, 0 ≤ x → x < m.On.Objects → ∀ y, 0 ≤ y → y < m.On.Objects → (fnd (behF m x) y).2.2 = true

theorem IsClosed_both {m : XMonoidal} (sm : SmallO m) : ∃ w w', M.spec_IsClosed m = some (w, w') ∧ M.impl_IsClosed m = some (w, w') := by
  by_cases h : IsTen m
  · have n0 := h.t.cat.1.shp.n0
    have n8 := h.t.cat.1.shp.n8
    refine ⟨decide (Closed m), 0, ?_, ?_⟩
    · apply Ret.eq
      unfold M.spec_IsClosed
      refine Ret.call (l35Is_eq sm) ?_
      rw [if_pos (decide_eq_true h)]
      refine Ret.all m.On.Objects (fun x => ∀ y, 0 ≤ y → y < m.On.Objects → (fnd (behF m x) y).2.2 = true) n0 (by omega) ?_ ?_
      · intro x next x0 x1 hp hn
        rw [if_pos (decide_eq_true x1)]
        refine Ret.call (l35Behind_eq sm h x0 x1) ?_
        refine Ret.all m.On.Objects (fun y => (fnd (behF m x) y).2.2 = true) n0 (by omega) ?_ ?_
        · intro y next y0 y1 hq hn2
          rw [if_pos (decide_eq_true y1)]
          refine Ret.call (fnd_spec (behF_fun h x0 x1) y) (Ret.ite (fun hb => hn2 hb) (fun hb => Ret.some ?_))
          rw [decide_eq_false (fun hc : Closed m => hb (hc x x0 x1 y y0 y1))]
        · intro next hq
          rw [if_neg (by simp)]
          exact hn hq
      · intro next hp
        rw [if_neg (by simp)]
        refine Ret.some ?_
        rw [decide_eq_true (show Closed m from hp)]
    · apply Ret.eq
      unfold M.impl_IsClosed
      refine Ret.call (isMonoidal_eq sm) ?_
      rw [if_pos (decide_eq_true h)]
      refine Ret.all m.On.Objects (fun x => ∀ y, 0 ≤ y → y < m.On.Objects → (fnd (behF m x) y).2.2 = true) n0 (by omega) ?_ ?_
      · intro x next x0 x1 hp hn
        rw [if_pos (decide_eq_true x1)]
        refine Ret.call (behind_eq sm h x0 x1) ?_
        refine Ret.all m.On.Objects (fun y => (fnd (behF m x) y).2.2 = true) n0 (by omega) ?_ ?_
        · intro y next y0 y1 hq hn2
          rw [if_pos (decide_eq_true y1)]
          refine Ret.call (fnd_impl (behF_fun h x0 x1) y) (Ret.ite (fun hb => hn2 hb) (fun hb => Ret.some ?_))
          rw [decide_eq_false (fun hc : Closed m => hb (hc x x0 x1 y y0 y1))]
        · intro next hq
          rw [if_neg (by simp)]
          exact hn hq
      · intro next hp
        rw [if_neg (by simp)]
        refine Ret.some ?_
        rw [decide_eq_true (show Closed m from hp)]
  · refine ⟨false, 1, ?_, ?_⟩
    · unfold M.spec_IsClosed
      rw [l35Is_eq sm, decide_eq_false h]; rfl
    · unfold M.impl_IsClosed
      rw [isMonoidal_eq sm, decide_eq_false h]; rfl

theorem law_IsClosed {a0 : XMonoidal} (h0 : R.XMonoidal a0) : M.laws_FnExactIsClosed a0 = some true := by
  unfold M.laws_FnExactIsClosed
  obtain ⟨v0, e0, hv0⟩ := szMonoidal_r (n := 1048576) (by decide) (by decide) (fitsO h0)
  rw [e0, Option.bind_some]
  rcases hv0 with ⟨z0, _⟩ | ⟨l0, u0, s0⟩
  · rw [if_pos (decide_eq_true z0)]
  · rw [if_neg (fun h => absurd (of_decide_eq_true h) (by omega))]
    rw [toMonoidal_eq s0, Option.bind_some]
    obtain ⟨w, w', es, ei⟩ := IsClosed_both s0
    have hb0 : ((w == w) == false) = false := by cases w <;> rfl
    rw [es, ei]
    simp only [Option.bind_some]
    rw [eqMonoidal_refl s0]
    simp only [Option.bind_some, bne_self_eq_false, Bool.false_eq_true, if_false, if_true, hb0]

end Go.Gx
