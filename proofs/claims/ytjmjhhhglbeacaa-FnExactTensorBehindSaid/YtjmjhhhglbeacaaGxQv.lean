/- Plain laws: arrows with their ends. -/
import Derived.Test.YtjmjhhhglbeacaaGxQt
import Derived.Test.YtjmjhhhglbeacaaGxQf
import Derived.Test.YtjmjhhhglbeacaaGxQu
namespace Go.Gx
open Classical
set_option maxHeartbeats 1000000

theorem Ret.bindId {ρ : Type} {x : Option ρ} {Q : ρ → Prop} (h : Ret x Q) : Ret (x.bind fun v => Option.some v) Q := by
  obtain ⟨r, rfl, hr⟩ := h; exact ⟨r, rfl, hr⟩

/-- f goes from x to y. -/
structure Ar (c : XCategory) (f x y : Int) : Prop where
  p : 0 ≤ f
  q : f < (c.From.length : Int)
  s : el c.From f = x
  t : el c.To f = y

section
variable {c : XCategory} {f g x y z w : Int}
theorem Ar.rg (h : Ar c f x y) : 0 ≤ f ∧ f < (c.From.length : Int) := ⟨h.p, h.q⟩
theorem Ar.of (h0 : 0 ≤ f) (h1 : f < (c.From.length : Int)) : Ar c f (el c.From f) (el c.To f) := ⟨h0, h1, rfl, rfl⟩
theorem Ar.src (hc : Shp c) (h : Ar c f x y) : 0 ≤ x ∧ x < c.Objects := by rw [← h.s]; exact hc.from_in f h.p h.q
theorem Ar.comp (hc : Shp c) (a : Ar c f x y) (b : Ar c g y z) : Ar c (cmp c f g) x z :=
  have e : el c.To f = el c.From g := a.t.trans b.s.symm
  have h := hc.yes _ _ a.p a.q b.p b.q e
  ⟨h.1, h.2, (hc.cfrom _ _ a.p a.q b.p b.q e).trans a.s, (hc.cto _ _ a.p a.q b.p b.q e).trans b.t⟩
theorem Ar.one (hc : Shp c) (h0 : 0 ≤ x) (h1 : x < c.Objects) : Ar c (el c.Identity x) x x :=
  have h := hc.id_in x h0 h1
  ⟨h.1, h.2, hc.id_from x h0 h1, hc.id_to x h0 h1⟩
theorem Ar.th (hc : Shp c) (a : Ar c f x y) (b : Ar c g z w) : M.spec_l02Then c f g = some (cmp c f g) := l02Then_in hc a.rg b.rg
theorem Ar.ti (hc : Shp c) (a : Ar c f x y) (b : Ar c g z w) : M.impl_Category_then c f g = some (cmp c f g) := then_in hc a.rg b.rg
theorem Ar.en (hc : Shp c) (a : Ar c f x y) : M.impl_Category_ends c f = some ⟨x, y⟩ := by
  have l := hc.lto
  have e := ends_eq (c := c) (y := f) a.p a.q (by have := a.q; omega)
  rw [a.s, a.t] at e
  exact e
end

theorem IsFun.map {F : XFunctor} (h : IsFun F) {f x y : Int} (a : Ar F.Source f x y) : Ar F.Target (el F.Arrows f) (el F.Objects x) (el F.Objects y) := by
  have la := h.2.2.la
  have i := h.2.2.ina f a.p (by have := a.q; omega)
  exact ⟨i.1, i.2, by rw [h.2.2.afrom f a.p a.q, a.s], by rw [h.2.2.ato f a.p a.q, a.t]⟩

theorem IsNat.at {t : XTransformation} (h : IsNat t) {x : Int} (x0 : 0 ≤ x) (x1 : x < t.Source.Source.Objects) :
    Ar t.Source.Target (el t.Components x) (el t.Source.Objects x) (el t.Target.Objects x) ∧ x < (t.Components.length : Int) := by
  obtain ⟨u1, u2, u3⟩ := h.1.2.2.2
  have i := u2 x x0 (by omega)
  have e := u3 x x0 (by omega)
  exact ⟨⟨i.1, i.2, e.1, e.2⟩, by omega⟩

theorem in_one {n x : Int} : In n [x] ↔ 0 ≤ x ∧ x < n := by
  constructor
  · intro h; exact h 0 (by omega) (by simp)
  · intro h i h0 h1
    have e : i = 0 := by simp at h1; omega
    subst e; exact h
theorem in_two {n x y : Int} : In n [x, y] ↔ (0 ≤ x ∧ x < n) ∧ (0 ≤ y ∧ y < n) := by
  constructor
  · intro h; exact ⟨h 0 (by omega) (by simp), h 1 (by omega) (by simp)⟩
  · intro h i h0 h1
    have e : i = 0 ∨ i = 1 := by simp at h1; omega
    rcases e with rfl | rfl
    · exact h.1
    · exact h.2
end Go.Gx
