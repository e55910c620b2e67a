/- Plain laws: monads. -/
import Derived.Test.YtpfdieaiogfihaaGxQv
import Derived.Test.YtpfdieaiogfihaaGxwMM
namespace Go.Gx
open Classical
set_option maxHeartbeats 2000000

structure SmallM (m : XMonad) : Prop where
  s1 : SmallF m.On
  s2 : Small m.Unit
  s3 : Small m.Join
structure FitsM (m : XMonad) : Prop where
  f1 : FitsF m.On
  f2 : Fits m.Unit
  f3 : Fits m.Join
theorem fitsM {m : XMonad} (h : R.XMonad m) : FitsM m := ⟨fitsF h.1, h.2.1.1, h.2.2.1⟩

theorem szMonad_r {m : XMonad} {n : Int} (h0 : 0 ≤ n) (h1 : n ≤ 1048576) (h : FitsM m) :
    Ret (M.laws_szMonad m n) fun r => (r < 0 ∧ r = -1) ∨ (0 ≤ r ∧ r ≤ n ∧ SmallM m) := by
  obtain ⟨g1, g2, g3⟩ := h
  unfold M.laws_szMonad
  simp only [decide_eq_true_eq]
  (repeat' (first | with_reducible refine Ret.pos ‹_› ?_ | with_reducible refine Ret.neg ‹_› ?_ | with_reducible refine Ret.neg (Int.lt_irrefl _) ?_ | with_reducible refine Ret.ite (fun _ => ?_) (fun _ => ?_) | with_reducible refine Ret.idx ?_ ?_ ?_ | with_reducible refine Ret.chk ?_ ?_ | with_reducible refine hn3 ?_ | with_reducible refine hn2 ?_ | with_reducible refine hn1 ?_ | with_reducible refine hn3 _ ?_ | with_reducible refine hn2 _ ?_ | with_reducible refine hn1 _ ?_ | with_reducible refine Ret.bind (szInt64S_r ?_ ?_ ?_) fun v hv => ?_ | with_reducible refine Ret.bind (szFunctor_r ?_ ?_ ?_) fun v hv => ?_ | with_reducible refine Ret.some ?_))
  all_goals first | assumption | omega | (refine Or.inl ⟨by omega, rfl⟩) | (refine Or.inr ⟨by omega, by omega, ⟨?_, ?_, ?_⟩⟩ <;> grind)
theorem toMonad_eq {m : XMonad} (h : SmallM m) : M.laws_toMonad m = some m := by
  unfold M.laws_toMonad
  rw [toFunctor_eq h.s1, toInt64S_eq h.s2, toInt64S_eq h.s3]; rfl
theorem eqMonad_refl {m : XMonad} (h : SmallM m) : M.laws_eqMonad m m = some true := by
  unfold M.laws_eqMonad
  rw [eqFunctor_refl h.s1, eqInt64S_refl h.s2, eqInt64S_refl h.s3]; simp

def LawAt (m : XMonad) (x : Int) : Prop :=
  cmp m.On.Source (el m.On.Arrows (el m.Unit x)) (el m.Join x) = el m.On.Source.Identity (el m.On.Objects x) ∧
  cmp m.On.Source (el m.Unit (el m.On.Objects x)) (el m.Join x) = el m.On.Source.Identity (el m.On.Objects x) ∧
  cmp m.On.Source (el m.On.Arrows (el m.Join x)) (el m.Join x) = cmp m.On.Source (el m.Join (el m.On.Objects x)) (el m.Join x)
def Lawful (m : XMonad) : Prop := ∀ x, 0 ≤ x → x < m.On.Source.Objects → LawAt m x

/-- All of a monad but its laws. -/
structure Mon0 (m : XMonad) : Prop where
  f : IsFun m.On
  e : m.On.Source = m.On.Target
  u : IsNat ⟨idF m.On.Source, m.On, m.Unit⟩
  j : IsNat ⟨thenF m.On m.On, m.On, m.Join⟩
def IsMon (m : XMonad) : Prop := Mon0 m ∧ Lawful m

/-- The arrows of a monad at x. -/
structure MF (m : XMonad) (x : Int) : Prop where
  y : 0 ≤ el m.On.Objects x ∧ el m.On.Objects x < m.On.Source.Objects
  xo : x < (m.On.Objects.length : Int)
  xu : x < (m.Unit.length : Int)
  xj : x < (m.Join.length : Int)
  u : 0 ≤ el m.Unit x ∧ el m.Unit x < (m.On.Source.From.length : Int)
  uf : el m.On.Source.From (el m.Unit x) = x
  ut : el m.On.Source.To (el m.Unit x) = el m.On.Objects x
  j : 0 ≤ el m.Join x ∧ el m.Join x < (m.On.Source.From.length : Int)
  jf : el m.On.Source.From (el m.Join x) = el m.On.Objects (el m.On.Objects x)
  jt : el m.On.Source.To (el m.Join x) = el m.On.Objects x

theorem Mon0.at {m : XMonad} (h : Mon0 m) {x : Int} (h0 : 0 ≤ x) (h1 : x < m.On.Source.Objects) : MF m x := by
  obtain ⟨⟨S, T, o, a⟩, u, j⟩ := m
  obtain ⟨hf, he, hu, hj⟩ := h
  dsimp only at *
  subst he
  obtain ⟨u1, u2, u3⟩ := hu.1.2.2.2
  obtain ⟨j1, j2, j3⟩ := hj.1.2.2.2
  have f1 := hf.2.2.lo
  have f2 := hf.2.2.ino
  dsimp only [idF, thenF] at *
  have hu3 := u3 x h0 (by omega)
  have hj3 := j3 x h0 (by omega)
  rw [el_tab h0 h1] at hu3
  rw [el_thenL h0 (by omega)] at hj3
  exact ⟨f2 x h0 (by omega), by dsimp only; omega, by dsimp only; omega, by dsimp only; omega, u2 x h0 (by omega), hu3.1, hu3.2, j2 x h0 (by omega), hj3.1, hj3.2⟩

/-- What the functor of a monad does to an arrow. -/
structure TF (m : XMonad) (f : Int) : Prop where
  xa : f < (m.On.Arrows.length : Int)
  a : 0 ≤ el m.On.Arrows f ∧ el m.On.Arrows f < (m.On.Source.From.length : Int)
  af : el m.On.Source.From (el m.On.Arrows f) = el m.On.Objects (el m.On.Source.From f)
  at' : el m.On.Source.To (el m.On.Arrows f) = el m.On.Objects (el m.On.Source.To f)
theorem Mon0.arr {m : XMonad} (h : Mon0 m) {f : Int} (h0 : 0 ≤ f) (h1 : f < (m.On.Source.From.length : Int)) : TF m f := by
  obtain ⟨⟨S, T, o, a⟩, u, j⟩ := m
  obtain ⟨hf, he, hu, hj⟩ := h
  dsimp only at *
  subst he
  have f1 := hf.2.2.la
  dsimp only at f1
  exact ⟨by dsimp only; omega, hf.2.2.ina f h0 (by dsimp only; omega), hf.2.2.afrom f h0 h1, hf.2.2.ato f h0 h1⟩

theorem MF.au {m : XMonad} {x : Int} (a : MF m x) : Ar m.On.Source (el m.Unit x) x (el m.On.Objects x) := ⟨a.u.1, a.u.2, a.uf, a.ut⟩
theorem MF.aj {m : XMonad} {x : Int} (a : MF m x) : Ar m.On.Source (el m.Join x) (el m.On.Objects (el m.On.Objects x)) (el m.On.Objects x) := ⟨a.j.1, a.j.2, a.jf, a.jt⟩
theorem Mon0.map {m : XMonad} (h : Mon0 m) {f x y : Int} (a : Ar m.On.Source f x y) : Ar m.On.Source (el m.On.Arrows f) (el m.On.Objects x) (el m.On.Objects y) := by
  have t := h.arr a.p a.q
  exact ⟨t.a.1, t.a.2, by rw [t.af, a.s], by rw [t.at', a.t]⟩
theorem Mon0.xa {m : XMonad} (h : Mon0 m) {f x y : Int} (a : Ar m.On.Source f x y) : f < (m.On.Arrows.length : Int) := (h.arr a.p a.q).xa

/-- The arrows that the laws at x speak of. -/
theorem Mon0.six {m : XMonad} (h : Mon0 m) {x : Int} (x0 : 0 ≤ x) (x1 : x < m.On.Source.Objects) :
    MF m x ∧ MF m (el m.On.Objects x) ∧
    Ar m.On.Source (cmp m.On.Source (el m.On.Arrows (el m.Unit x)) (el m.Join x)) (el m.On.Objects x) (el m.On.Objects x) ∧
    Ar m.On.Source (cmp m.On.Source (el m.Unit (el m.On.Objects x)) (el m.Join x)) (el m.On.Objects x) (el m.On.Objects x) ∧
    Ar m.On.Source (el m.On.Arrows (el m.Unit x)) (el m.On.Objects x) (el m.On.Objects (el m.On.Objects x)) ∧
    Ar m.On.Source (el m.On.Arrows (el m.Join x)) (el m.On.Objects (el m.On.Objects (el m.On.Objects x))) (el m.On.Objects (el m.On.Objects x)) := by
  have hc := h.f.1.1.shp
  have a := h.at x0 x1
  have b := h.at a.y.1 a.y.2
  have tu := h.map a.au
  have tj := h.map a.aj
  exact ⟨a, b, tu.comp hc a.aj, b.au.comp hc a.aj, tu, tj⟩

theorem l16Laws_eq {m : XMonad} (h : Mon0 m) : M.spec_l16Laws m.On m.Unit m.Join = some (decide (Lawful m)) := by
  apply Ret.ask
  have hc := h.f.1.1.shp
  have n0 := hc.n0
  have n8 := hc.n8
  unfold M.spec_l16Laws
  simp only [bne_iff_ne, ne_eq, decide_eq_true_eq]
  refine Ret.all m.On.Source.Objects (fun x => LawAt m x) n0 (by omega) ?_ ?_
  · intro x next x0 x1 hp hn1
    obtain ⟨a, b, c1, c2, tu, tj⟩ := h.six x0 x1
    have hno : ¬ LawAt m x → ¬ Lawful m := fun hx hN => hx (hN x x0 x1)
    have xu := h.xa a.au
    have xj := h.xa a.aj
    rw [if_pos x1]
    refine Ret.idx x0 a.xo (Ret.idx x0 a.xu (Ret.idx a.u.1 xu (Ret.idx x0 a.xj (Ret.call (tu.th hc a.aj) (Ret.call (c1.un hc) (Ret.ite (fun e1 => ?_) (fun e1 => Ret.some ?_)))))))
    · refine Ret.idx a.y.1 b.xu (Ret.call (b.au.th hc a.aj) (Ret.call (c2.un hc) (Ret.ite (fun e2 => ?_) (fun e2 => Ret.some ?_))))
      · refine Ret.idx a.j.1 xj (Ret.call (tj.th hc a.aj) (Ret.idx a.y.1 b.xj (Ret.call (b.aj.th hc a.aj) (Ret.ite (fun e3 => Ret.some ?_) (fun e3 => ?_)))))
        · exact ⟨(fun h => by cases h), fun hN => absurd (hN x x0 x1).2.2 e3⟩
        · exact hn1 ⟨(of_decide_eq_true e1).symm, (of_decide_eq_true e2).symm, Decidable.not_not.1 e3⟩
      · exact ⟨(fun h => by cases h), fun hN => absurd (decide_eq_true (hN x x0 x1).2.1.symm) e2⟩
    · exact ⟨(fun h => by cases h), fun hN => absurd (decide_eq_true (hN x x0 x1).1.symm) e1⟩
  · intro next hp
    rw [if_neg (by omega)]
    exact Ret.some ⟨fun _ => hp, fun _ => rfl⟩

theorem monObject_eq {m : XMonad} {x : Int} (h0 : 0 ≤ x) (h1 : x < (m.On.Objects.length : Int)) : M.impl_Monad_object m x = some (el m.On.Objects x) := by
  unfold M.impl_Monad_object; rw [idx_el h0 h1]; rfl
theorem monArrow_eq {m : XMonad} {x : Int} (h0 : 0 ≤ x) (h1 : x < (m.On.Arrows.length : Int)) : M.impl_Monad_arrow m x = some (el m.On.Arrows x) := by
  unfold M.impl_Monad_arrow; rw [idx_el h0 h1]; rfl

theorem isLawful_eq {m : XMonad} (h : Mon0 m) : M.impl_Monad_isLawful m = some (decide (Lawful m)) := by
  apply Ret.ask
  have hc := h.f.1.1.shp
  have n0 := hc.n0
  have n8 := hc.n8
  have lid := hc.lid
  unfold M.impl_Monad_isLawful
  simp only [bne_iff_ne, ne_eq, decide_eq_true_eq]
  refine Ret.all m.On.Source.Objects (fun x => LawAt m x) n0 (by omega) ?_ ?_
  · intro x next x0 x1 hp hn1
    obtain ⟨a, b, c1, c2, tu, tj⟩ := h.six x0 x1
    have xu := h.xa a.au
    have xj := h.xa a.aj
    have y0 := a.y.1
    have y1 := a.y.2
    rw [if_pos x1]
    refine Ret.call (monObject_eq x0 a.xo) (Ret.idx x0 a.xu (Ret.call (monArrow_eq a.u.1 xu) (Ret.idx x0 a.xj (Ret.call (tu.ti hc a.aj) (Ret.idx y0 (by omega) (Ret.ite (fun e1 => Ret.some ?_) (fun e1 => ?_)))))))
    · exact ⟨(fun h => by cases h), fun hN => absurd (hN x x0 x1).1 e1⟩
    · refine Ret.idx y0 b.xu (Ret.call (b.au.ti hc a.aj) (Ret.ite (fun e2 => Ret.some ?_) (fun e2 => ?_)))
      · exact ⟨(fun h => by cases h), fun hN => absurd (hN x x0 x1).2.1 e2⟩
      · refine Ret.call (monArrow_eq a.j.1 xj) (Ret.call (tj.ti hc a.aj) (Ret.idx y0 b.xj (Ret.call (b.aj.ti hc a.aj) (Ret.ite (fun e3 => Ret.some ?_) (fun e3 => ?_)))))
        · exact ⟨(fun h => by cases h), fun hN => absurd (hN x x0 x1).2.2 e3⟩
        · exact hn1 ⟨Decidable.not_not.1 e1, Decidable.not_not.1 e2, Decidable.not_not.1 e3⟩
  · intro next hp
    rw [if_neg (by omega)]
    exact Ret.some ⟨fun _ => hp, fun _ => rfl⟩

theorem l16Is_eq {m : XMonad} (hm : SmallM m) : M.spec_l16Is m = some (decide (IsMon m)) := by
  apply Ret.ask
  unfold M.spec_l16Is M.spec_l16Twice
  refine Ret.call (l06Is_eq hm.s1) (Ret.ite (fun h1 => ?_) (fun h1 => Ret.some ⟨(fun h => by cases h), fun e => absurd (decide_eq_true e.1.f) h1⟩))
  have h1 := of_decide_eq_true h1
  refine Ret.call (l02Same_eq hm.s1.s1 hm.s1.s2) (Ret.ite (fun h2 => ?_) (fun h2 => Ret.some ⟨(fun h => by cases h), fun e => absurd (decide_eq_true e.1.e) h2⟩))
  have h2 := of_decide_eq_true h2
  have hc := h1.1.1.shp
  have hi := idF_fun h1.1
  have pu : Par (idF m.On.Source) m.On := ⟨rfl, h2⟩
  refine Ret.call (l06Self_eq hm.s1.s1 hc) (Ret.call (l15Natural_eq hm.s2 hi h1 pu) (Ret.ite (fun h3 => ?_) (fun h3 => Ret.some ⟨(fun h => by cases h), fun e => absurd (decide_eq_true e.1.u) h3⟩)))
  have ht := thenF_fun h1 h1 h2.symm
  have pj : Par (thenF m.On m.On) m.On := ⟨rfl, rfl⟩
  rw [l06Then_eq hm.s1 hm.s1 (meet_of h1 h1 h2.symm)]
  simp only [Option.bind_some]
  refine Ret.call (l15Natural_eq hm.s3 ht h1 pj) (Ret.ite (fun h4 => ?_) (fun h4 => Ret.some ⟨(fun h => by cases h), fun e => absurd (decide_eq_true e.1.j) h4⟩))
  have m0 : Mon0 m := ⟨h1, h2, of_decide_eq_true h3, of_decide_eq_true h4⟩
  refine Ret.call (l16Laws_eq m0) (Ret.some ?_)
  rw [decide_eq_true_iff]
  exact ⟨fun e => ⟨m0, e⟩, fun e => e.2⟩

theorem isMonad_eq {m : XMonad} (hm : SmallM m) : M.impl_Monad_isMonad m = some (decide (IsMon m)) := by
  apply Ret.ask
  unfold M.impl_Monad_isMonad
  refine Ret.call (isFunctor_eq hm.s1) (Ret.ite (fun h1 => ?_) (fun h1 => Ret.some ⟨(fun h => by cases h), fun e => absurd (decide_eq_true e.1.f) h1⟩))
  have h1 := of_decide_eq_true h1
  refine Ret.call (sameCategory_eq hm.s1.s1 hm.s1.s2) (Ret.ite (fun h2 => ?_) (fun h2 => Ret.some ⟨(fun h => by cases h), fun e => absurd (decide_eq_true e.1.e) h2⟩))
  have h2 := of_decide_eq_true h2
  have hc := h1.1.1.shp
  have su : SmallT ⟨idF m.On.Source, m.On, m.Unit⟩ := ⟨idF_small hm.s1.s1 hc, hm.s1, hm.s2⟩
  have sj : SmallT ⟨thenF m.On m.On, m.On, m.Join⟩ := ⟨thenF_small hm.s1 hm.s1, hm.s1, hm.s3⟩
  refine Ret.call (identity_eq hm.s1.s1 hc) (Ret.call (Functor_then_eq hm.s1 hm.s1 (meet_of h1 h1 h2.symm)) (Ret.call (areNat2_eq su sj) (Ret.ite (fun h3 => ?_) (fun h3 => Ret.some ⟨(fun h => by cases h), fun e => absurd (decide_eq_true (show IsNat _ ∧ IsNat _ from ⟨e.1.u, e.1.j⟩)) h3⟩))))
  have h3 := of_decide_eq_true h3
  have m0 : Mon0 m := ⟨h1, h2, h3.1, h3.2⟩
  refine Ret.call (isLawful_eq m0) (Ret.some ?_)
  rw [decide_eq_true_iff]
  exact ⟨fun e => ⟨m0, e⟩, fun e => e.2⟩
end Go.Gx
