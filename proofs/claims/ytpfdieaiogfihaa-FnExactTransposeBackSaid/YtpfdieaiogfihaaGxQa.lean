/- Plain laws: adjunctions. -/
import Derived.Test.YtpfdieaiogfihaaGxQv
import Derived.Test.YtpfdieaiogfihaaGxwAM
namespace Go.Gx
open Classical
set_option maxHeartbeats 2000000

structure SmallA (a : XAdjunction) : Prop where
  s1 : SmallF a.Left
  s2 : SmallF a.Right
  s3 : Small a.Unit
  s4 : Small a.Counit
structure FitsA (a : XAdjunction) : Prop where
  f1 : FitsF a.Left
  f2 : FitsF a.Right
  f3 : Fits a.Unit
  f4 : Fits a.Counit
theorem fitsA {a : XAdjunction} (h : R.XAdjunction a) : FitsA a := ⟨fitsF h.1, fitsF h.2.1, h.2.2.1.1, h.2.2.2.1⟩

theorem szAdjunction_r {a : XAdjunction} {n : Int} (h0 : 0 ≤ n) (h1 : n ≤ 1048576) (h : FitsA a) :
    Ret (M.laws_szAdjunction a n) fun r => (r < 0 ∧ r = -1) ∨ (0 ≤ r ∧ r ≤ n ∧ SmallA a) := by
  obtain ⟨g1, g2, g3, g4⟩ := h
  unfold M.laws_szAdjunction
  simp only [decide_eq_true_eq]
  (repeat' (first | with_reducible refine Ret.pos ‹_› ?_ | with_reducible refine Ret.neg ‹_› ?_ | with_reducible refine Ret.neg (Int.lt_irrefl _) ?_ | with_reducible refine Ret.ite (fun _ => ?_) (fun _ => ?_) | with_reducible refine Ret.idx ?_ ?_ ?_ | with_reducible refine Ret.chk ?_ ?_ | with_reducible refine hn3 ?_ | with_reducible refine hn2 ?_ | with_reducible refine hn1 ?_ | with_reducible refine hn3 _ ?_ | with_reducible refine hn2 _ ?_ | with_reducible refine hn1 _ ?_ | with_reducible refine Ret.bind (szInt64S_r ?_ ?_ ?_) fun v hv => ?_ | with_reducible refine Ret.bind (szFunctor_r ?_ ?_ ?_) fun v hv => ?_ | with_reducible refine Ret.some ?_))
  all_goals first | assumption | omega | (refine Or.inl ⟨by omega, rfl⟩) | (refine Or.inr ⟨by omega, by omega, ⟨?_, ?_, ?_, ?_⟩⟩ <;> grind)
theorem toAdjunction_eq {a : XAdjunction} (h : SmallA a) : M.laws_toAdjunction a = some a := by
  unfold M.laws_toAdjunction
  rw [toFunctor_eq h.s1, toFunctor_eq h.s2, toInt64S_eq h.s3, toInt64S_eq h.s4]; rfl
theorem eqAdjunction_refl {a : XAdjunction} (h : SmallA a) : M.laws_eqAdjunction a a = some true := by
  unfold M.laws_eqAdjunction
  rw [eqFunctor_refl h.s1, eqFunctor_refl h.s2, eqInt64S_refl h.s3, eqInt64S_refl h.s4]; simp

/-- All of an adjunction but its triangles. -/
structure Adj0 (a : XAdjunction) : Prop where
  f : IsFun a.Left
  g : IsFun a.Right
  e1 : a.Left.Target = a.Right.Source
  e2 : a.Right.Target = a.Left.Source
  u : IsNat ⟨idF a.Left.Source, thenF a.Left a.Right, a.Unit⟩
  k : IsNat ⟨thenF a.Right a.Left, idF a.Left.Target, a.Counit⟩

theorem Adj0.unit {a : XAdjunction} (h : Adj0 a) {x : Int} (h0 : 0 ≤ x) (h1 : x < a.Left.Source.Objects) :
    x < (a.Unit.length : Int) ∧ (0 ≤ el a.Unit x ∧ el a.Unit x < (a.Left.Source.From.length : Int)) ∧ el a.Left.Source.From (el a.Unit x) = x ∧ el a.Left.Source.To (el a.Unit x) = el a.Right.Objects (el a.Left.Objects x) := by
  obtain ⟨u1, u2, u3⟩ := h.u.1.2.2.2
  have lo := h.f.2.2.lo
  dsimp only [idF, thenF] at u1 u2 u3
  have q := u3 x h0 (by omega)
  rw [el_tab h0 h1, el_thenL h0 (by omega)] at q
  exact ⟨by omega, u2 x h0 (by omega), q.1, q.2⟩
theorem Adj0.counit {a : XAdjunction} (h : Adj0 a) {y : Int} (h0 : 0 ≤ y) (h1 : y < a.Left.Target.Objects) :
    y < (a.Counit.length : Int) ∧ (0 ≤ el a.Counit y ∧ el a.Counit y < (a.Left.Target.From.length : Int)) ∧ el a.Left.Target.From (el a.Counit y) = el a.Left.Objects (el a.Right.Objects y) ∧ el a.Left.Target.To (el a.Counit y) = y := by
  obtain ⟨u1, u2, u3⟩ := h.k.1.2.2.2
  have lo := h.g.2.2.lo
  have e := h.e1
  dsimp only [idF, thenF] at u1 u2 u3
  rw [← e] at u1 lo
  have q := u3 y h0 (by omega)
  rw [el_tab h0 h1, el_thenL h0 (by omega)] at q
  exact ⟨by omega, u2 y h0 (by omega), q.1, q.2⟩
theorem Adj0.lob {a : XAdjunction} (h : Adj0 a) {x : Int} (h0 : 0 ≤ x) (h1 : x < a.Left.Source.Objects) :
    x < (a.Left.Objects.length : Int) ∧ 0 ≤ el a.Left.Objects x ∧ el a.Left.Objects x < a.Left.Target.Objects := by
  have lo := h.f.2.2.lo
  exact ⟨by omega, h.f.2.2.ino x h0 (by omega)⟩
theorem Adj0.rob {a : XAdjunction} (h : Adj0 a) {y : Int} (h0 : 0 ≤ y) (h1 : y < a.Left.Target.Objects) :
    y < (a.Right.Objects.length : Int) ∧ 0 ≤ el a.Right.Objects y ∧ el a.Right.Objects y < a.Left.Source.Objects := by
  have lo := h.g.2.2.lo
  have io := h.g.2.2.ino
  rw [← h.e1] at lo
  rw [h.e2] at io
  exact ⟨by omega, io y h0 (by omega)⟩
theorem Adj0.larr {a : XAdjunction} (h : Adj0 a) {f : Int} (h0 : 0 ≤ f) (h1 : f < (a.Left.Source.From.length : Int)) :
    f < (a.Left.Arrows.length : Int) ∧ (0 ≤ el a.Left.Arrows f ∧ el a.Left.Arrows f < (a.Left.Target.From.length : Int)) ∧ el a.Left.Target.From (el a.Left.Arrows f) = el a.Left.Objects (el a.Left.Source.From f) ∧ el a.Left.Target.To (el a.Left.Arrows f) = el a.Left.Objects (el a.Left.Source.To f) := by
  have la := h.f.2.2.la
  exact ⟨by omega, h.f.2.2.ina f h0 (by omega), h.f.2.2.afrom f h0 h1, h.f.2.2.ato f h0 h1⟩
theorem Adj0.rarr {a : XAdjunction} (h : Adj0 a) {g : Int} (h0 : 0 ≤ g) (h1 : g < (a.Left.Target.From.length : Int)) :
    g < (a.Right.Arrows.length : Int) ∧ (0 ≤ el a.Right.Arrows g ∧ el a.Right.Arrows g < (a.Left.Source.From.length : Int)) ∧ el a.Left.Source.From (el a.Right.Arrows g) = el a.Right.Objects (el a.Left.Target.From g) ∧ el a.Left.Source.To (el a.Right.Arrows g) = el a.Right.Objects (el a.Left.Target.To g) := by
  have la := h.g.2.2.la
  have ia := h.g.2.2.ina
  have af := h.g.2.2.afrom g h0
  have at' := h.g.2.2.ato g h0
  rw [← h.e1] at la af at'
  rw [h.e2] at ia af at'
  exact ⟨by omega, ia g h0 (by omega), af h1, at' h1⟩

def Tri1 (a : XAdjunction) (x : Int) : Prop := cmp a.Left.Target (el a.Left.Arrows (el a.Unit x)) (el a.Counit (el a.Left.Objects x)) = el a.Left.Target.Identity (el a.Left.Objects x)
def Tri2 (a : XAdjunction) (y : Int) : Prop := cmp a.Left.Source (el a.Unit (el a.Right.Objects y)) (el a.Right.Arrows (el a.Counit y)) = el a.Left.Source.Identity (el a.Right.Objects y)
def IsAdj (a : XAdjunction) : Prop := Adj0 a ∧ (∀ x, 0 ≤ x → x < a.Left.Source.Objects → Tri1 a x) ∧ ∀ y, 0 ≤ y → y < a.Left.Target.Objects → Tri2 a y

/-- The sides of a triangle at x. -/
theorem Adj0.tri1 {a : XAdjunction} (h : Adj0 a) {x : Int} (h0 : 0 ≤ x) (h1 : x < a.Left.Source.Objects) :
    (0 ≤ cmp a.Left.Target (el a.Left.Arrows (el a.Unit x)) (el a.Counit (el a.Left.Objects x)) ∧ cmp a.Left.Target (el a.Left.Arrows (el a.Unit x)) (el a.Counit (el a.Left.Objects x)) < (a.Left.Target.From.length : Int)) ∧
    el a.Left.Target.From (cmp a.Left.Target (el a.Left.Arrows (el a.Unit x)) (el a.Counit (el a.Left.Objects x))) = el a.Left.Objects x := by
  have hd := h.f.2.1.1.shp
  obtain ⟨u1, u2, u3, u4⟩ := h.unit h0 h1
  obtain ⟨o1, o2, o3⟩ := h.lob h0 h1
  obtain ⟨k1, k2, k3, k4⟩ := h.counit o2 o3
  obtain ⟨l1, l2, l3, l4⟩ := h.larr u2.1 u2.2
  have e : el a.Left.Target.To (el a.Left.Arrows (el a.Unit x)) = el a.Left.Target.From (el a.Counit (el a.Left.Objects x)) := by rw [l4, u4, k3]
  refine ⟨hd.yes _ _ l2.1 l2.2 k2.1 k2.2 e, ?_⟩
  rw [hd.cfrom _ _ l2.1 l2.2 k2.1 k2.2 e, l3, u3]
theorem Adj0.tri2 {a : XAdjunction} (h : Adj0 a) {y : Int} (h0 : 0 ≤ y) (h1 : y < a.Left.Target.Objects) :
    (0 ≤ cmp a.Left.Source (el a.Unit (el a.Right.Objects y)) (el a.Right.Arrows (el a.Counit y)) ∧ cmp a.Left.Source (el a.Unit (el a.Right.Objects y)) (el a.Right.Arrows (el a.Counit y)) < (a.Left.Source.From.length : Int)) ∧
    el a.Left.Source.From (cmp a.Left.Source (el a.Unit (el a.Right.Objects y)) (el a.Right.Arrows (el a.Counit y))) = el a.Right.Objects y := by
  have hc := h.f.1.1.shp
  obtain ⟨o1, o2, o3⟩ := h.rob h0 h1
  obtain ⟨u1, u2, u3, u4⟩ := h.unit o2 o3
  obtain ⟨k1, k2, k3, k4⟩ := h.counit h0 h1
  obtain ⟨l1, l2, l3, l4⟩ := h.rarr k2.1 k2.2
  have e : el a.Left.Source.To (el a.Unit (el a.Right.Objects y)) = el a.Left.Source.From (el a.Right.Arrows (el a.Counit y)) := by rw [l3, u4, k3]
  refine ⟨hc.yes _ _ u2.1 u2.2 l2.1 l2.2 e, ?_⟩
  rw [hc.cfrom _ _ u2.1 u2.2 l2.1 l2.2 e, u3]

theorem Adj0.au {a : XAdjunction} (h : Adj0 a) {x : Int} (h0 : 0 ≤ x) (h1 : x < a.Left.Source.Objects) : Ar a.Left.Source (el a.Unit x) x (el a.Right.Objects (el a.Left.Objects x)) :=
  have u := h.unit h0 h1
  ⟨u.2.1.1, u.2.1.2, u.2.2.1, u.2.2.2⟩
theorem Adj0.ak {a : XAdjunction} (h : Adj0 a) {y : Int} (h0 : 0 ≤ y) (h1 : y < a.Left.Target.Objects) : Ar a.Left.Target (el a.Counit y) (el a.Left.Objects (el a.Right.Objects y)) y :=
  have u := h.counit h0 h1
  ⟨u.2.1.1, u.2.1.2, u.2.2.1, u.2.2.2⟩
theorem Adj0.lm {a : XAdjunction} (h : Adj0 a) {f x y : Int} (r : Ar a.Left.Source f x y) : Ar a.Left.Target (el a.Left.Arrows f) (el a.Left.Objects x) (el a.Left.Objects y) := by
  have u := h.larr r.p r.q
  exact ⟨u.2.1.1, u.2.1.2, by rw [u.2.2.1, r.s], by rw [u.2.2.2, r.t]⟩
theorem Adj0.rm {a : XAdjunction} (h : Adj0 a) {f x y : Int} (r : Ar a.Left.Target f x y) : Ar a.Left.Source (el a.Right.Arrows f) (el a.Right.Objects x) (el a.Right.Objects y) := by
  have u := h.rarr r.p r.q
  exact ⟨u.2.1.1, u.2.1.2, by rw [u.2.2.1, r.s], by rw [u.2.2.2, r.t]⟩
theorem Adj0.a1 {a : XAdjunction} (h : Adj0 a) {x : Int} (h0 : 0 ≤ x) (h1 : x < a.Left.Source.Objects) :
    Ar a.Left.Target (cmp a.Left.Target (el a.Left.Arrows (el a.Unit x)) (el a.Counit (el a.Left.Objects x))) (el a.Left.Objects x) (el a.Left.Objects x) :=
  have o := h.lob h0 h1
  (h.lm (h.au h0 h1)).comp h.f.2.1.1.shp (h.ak o.2.1 o.2.2)
theorem Adj0.a2 {a : XAdjunction} (h : Adj0 a) {y : Int} (h0 : 0 ≤ y) (h1 : y < a.Left.Target.Objects) :
    Ar a.Left.Source (cmp a.Left.Source (el a.Unit (el a.Right.Objects y)) (el a.Right.Arrows (el a.Counit y))) (el a.Right.Objects y) (el a.Right.Objects y) :=
  have o := h.rob h0 h1
  (h.au o.2.1 o.2.2).comp h.f.1.1.shp (h.rm (h.ak h0 h1))

theorem l15Is_eq {a : XAdjunction} (sa : SmallA a) : M.spec_l15Is a = some (decide (IsAdj a)) := by
  apply Ret.ask
  unfold M.spec_l15Is M.spec_l15Meets
  refine Ret.call (l06Is_eq sa.s1) (Ret.ite (fun h1 => ?_) (fun h1 => Ret.some ⟨(fun h => by cases h), fun e => absurd (decide_eq_true e.1.f) h1⟩))
  have h1 := of_decide_eq_true h1
  refine Ret.call (l06Is_eq sa.s2) (Ret.ite (fun h2 => ?_) (fun h2 => Ret.some ⟨(fun h => by cases h), fun e => absurd (decide_eq_true e.1.g) h2⟩))
  have h2 := of_decide_eq_true h2
  rw [l02Same_eq sa.s1.s2 sa.s2.s1, l02Same_eq sa.s2.s2 sa.s1.s1]
  by_cases e1 : a.Left.Target = a.Right.Source
  case neg =>
    rw [dF e1]
    exact Ret.some ⟨(fun h => by cases h), fun e => absurd e.1.e1 e1⟩
  by_cases e2 : a.Right.Target = a.Left.Source
  case neg =>
    rw [dT e1, dF e2]
    exact Ret.some ⟨(fun h => by cases h), fun e => absurd e.1.e2 e2⟩
  rw [dT e1, dT e2]
  simp only [Option.bind_some, if_true]
  have hc := h1.1.1.shp
  have hd := h1.2.1.1.shp
  have i1 := idF_fun h1.1
  have i2 := idF_fun h1.2.1
  have t1 := thenF_fun h1 h2 e1
  have t2 := thenF_fun h2 h1 e2
  have p1 : Par (idF a.Left.Source) (thenF a.Left a.Right) := ⟨rfl, e2.symm⟩
  have p2 : Par (thenF a.Right a.Left) (idF a.Left.Target) := ⟨e1.symm, rfl⟩
  rw [l06Self_eq sa.s1.s1 hc, l06Self_eq sa.s1.s2 hd, l06Then_eq sa.s1 sa.s2 (meet_of h1 h2 e1), l06Then_eq sa.s2 sa.s1 (meet_of h2 h1 e2)]
  simp only [Option.bind_some]
  refine Ret.call (l15Natural_eq sa.s3 i1 t1 p1) (Ret.ite (fun h3 => ?_) (fun h3 => Ret.some ⟨(fun h => by cases h), fun e => absurd (decide_eq_true e.1.u) h3⟩))
  refine Ret.call (l15Natural_eq sa.s4 t2 i2 p2) (Ret.ite (fun h4 => ?_) (fun h4 => Ret.some ⟨(fun h => by cases h), fun e => absurd (decide_eq_true e.1.k) h4⟩))
  have a0 : Adj0 a := ⟨h1, h2, e1, e2, of_decide_eq_true h3, of_decide_eq_true h4⟩
  have n1 := hc.n0
  have n2 := hc.n8
  have n3 := hd.n0
  have n4 := hd.n8
  simp only [decide_eq_true_eq]
  refine Ret.all a.Left.Source.Objects (fun x => Tri1 a x) n1 (by omega) ?_ ?_
  · intro x next x0 x1 hp hn1
    have o := a0.lob x0 x1
    have u := a0.au x0 x1
    rw [if_pos x1]
    refine Ret.idx x0 (a0.unit x0 x1).1 (Ret.idx u.p (a0.larr u.p u.q).1 (Ret.idx x0 o.1 (Ret.idx o.2.1 (a0.counit o.2.1 o.2.2).1 (Ret.call ((a0.lm u).th hd (a0.ak o.2.1 o.2.2)) (Ret.call ((a0.a1 x0 x1).un hd) (Ret.ite (fun h => hn1 (of_decide_eq_true h).symm) (fun h => Ret.some ?_)))))))
    exact ⟨(fun h => by cases h), fun e => absurd (decide_eq_true (e.2.1 x x0 x1).symm) h⟩
  · intro next hT
    rw [if_neg (by omega)]
    refine Ret.all a.Left.Target.Objects (fun y => Tri2 a y) n3 (by omega) ?_ ?_
    · intro y next y0 y1 hp hn1
      have o := a0.rob y0 y1
      have k := a0.ak y0 y1
      rw [if_pos y1]
      refine Ret.idx y0 o.1 (Ret.idx o.2.1 (a0.unit o.2.1 o.2.2).1 (Ret.idx y0 (a0.counit y0 y1).1 (Ret.idx k.p (a0.rarr k.p k.q).1 (Ret.call ((a0.au o.2.1 o.2.2).th hc (a0.rm k)) (Ret.call ((a0.a2 y0 y1).un hc) (Ret.ite (fun h => hn1 (of_decide_eq_true h).symm) (fun h => Ret.some ?_)))))))
      exact ⟨(fun h => by cases h), fun e => absurd (decide_eq_true (e.2.2 y y0 y1).symm) h⟩
    · intro next hU
      rw [if_neg (by omega)]
      exact Ret.some ⟨fun _ => ⟨a0, hT, hU⟩, fun _ => rfl⟩

theorem isAdjunction_eq {a : XAdjunction} (sa : SmallA a) : M.impl_Adjunction_isAdjunction a = some (decide (IsAdj a)) := by
  apply Ret.ask
  unfold M.impl_Adjunction_isAdjunction M.impl_leadBack
  rw [areTwo_eq sa.s1 sa.s2]
  by_cases h : IsFun a.Left ∧ IsFun a.Right
  case neg =>
    rw [dF h]
    exact Ret.some ⟨(fun h => by cases h), fun e => absurd ⟨e.1.f, e.1.g⟩ h⟩
  obtain ⟨h1, h2⟩ := h
  rw [dT (show IsFun a.Left ∧ IsFun a.Right from ⟨h1, h2⟩), sameCategory_eq sa.s1.s1 sa.s2.s2, sameCategory_eq sa.s1.s2 sa.s2.s1]
  by_cases e2 : a.Left.Source = a.Right.Target
  case neg =>
    rw [dF e2]
    exact Ret.some ⟨(fun h => by cases h), fun e => absurd e.1.e2.symm e2⟩
  by_cases e1 : a.Left.Target = a.Right.Source
  case neg =>
    rw [dT e2, dF e1]
    exact Ret.some ⟨(fun h => by cases h), fun e => absurd e.1.e1 e1⟩
  rw [dT e1, dT e2]
  simp only [Option.bind_some, if_true]
  have hc := h1.1.1.shp
  have hd := h1.2.1.1.shp
  have su : SmallT ⟨idF a.Left.Source, thenF a.Left a.Right, a.Unit⟩ := ⟨idF_small sa.s1.s1 hc, thenF_small sa.s1 sa.s2, sa.s3⟩
  have sk : SmallT ⟨thenF a.Right a.Left, idF a.Left.Target, a.Counit⟩ := ⟨thenF_small sa.s2 sa.s1, idF_small sa.s1.s2 hd, sa.s4⟩
  unfold M.impl_Adjunction_fits
  rw [identity_eq sa.s1.s1 hc, identity_eq sa.s1.s2 hd, Functor_then_eq sa.s1 sa.s2 (meet_of h1 h2 e1), Functor_then_eq sa.s2 sa.s1 (meet_of h2 h1 e2.symm)]
  simp only [Option.bind_some]
  rw [areNat2_eq su sk]
  by_cases h3 : IsNat ⟨idF a.Left.Source, thenF a.Left a.Right, a.Unit⟩ ∧ IsNat ⟨thenF a.Right a.Left, idF a.Left.Target, a.Counit⟩
  case neg =>
    rw [dF h3]
    exact Ret.some ⟨(fun h => by cases h), fun e => absurd ⟨e.1.u, e.1.k⟩ h3⟩
  rw [dT h3]
  simp only [Option.bind_some, if_true]
  have a0 : Adj0 a := ⟨h1, h2, e1, e2.symm, h3.1, h3.2⟩
  have n1 := hc.n0
  have n2 := hc.n8
  have n3 := hd.n0
  have n4 := hd.n8
  have lo := h1.2.2.lo
  have ro := h2.2.2.lo
  rw [← e1] at ro
  have li := hc.lid
  have di := hd.lid
  simp only [decide_eq_true_eq, bne_iff_ne, ne_eq]
  apply Ret.bindId
  refine Ret.all (a.Left.Objects.length : Int) (fun x => Tri1 a x) (by omega) (by omega) ?_ ?_
  · intro x next x0 x1 hp hn1
    have o := a0.lob x0 (by omega)
    have u := a0.au x0 (by omega)
    rw [if_pos x1]
    refine Ret.idx x0 x1 (Ret.idx x0 (a0.unit x0 (by omega)).1 (Ret.idx u.p (a0.larr u.p u.q).1 (Ret.idx o.2.1 (a0.counit o.2.1 o.2.2).1 (Ret.call ((a0.lm u).ti hd (a0.ak o.2.1 o.2.2)) (Ret.idx o.2.1 (by omega) (Ret.ite (fun h => Ret.some ?_) (fun h => hn1 (Decidable.not_not.1 h))))))))
    exact ⟨(fun h => by cases h), fun e => absurd (e.2.1 x x0 (by omega)) h⟩
  · intro next hT
    rw [if_neg (by omega)]
    refine Ret.all (a.Right.Objects.length : Int) (fun y => Tri2 a y) (by omega) (by omega) ?_ ?_
    · intro y next y0 y1 hp hn1
      have o := a0.rob y0 (by omega)
      have k := a0.ak y0 (by omega)
      rw [if_pos y1]
      refine Ret.idx y0 y1 (Ret.idx o.2.1 (a0.unit o.2.1 o.2.2).1 (Ret.idx y0 (a0.counit y0 (by omega)).1 (Ret.idx k.p (a0.rarr k.p k.q).1 (Ret.call ((a0.au o.2.1 o.2.2).ti hc (a0.rm k)) (Ret.idx o.2.1 (by omega) (Ret.ite (fun h => Ret.some ?_) (fun h => hn1 (Decidable.not_not.1 h))))))))
      exact ⟨(fun h => by cases h), fun e => absurd (e.2.2 y y0 (by omega)) h⟩
    · intro next hU
      rw [if_neg (by omega)]
      exact Ret.some ⟨fun _ => ⟨a0, fun x x0 x1 => hT x x0 (by omega), fun y y0 y1 => hU y y0 (by omega)⟩, fun _ => rfl⟩
end Go.Gx
