/- Plain laws: functors after each other are functors; natural families. -/
import Derived.Test.YtpfdieaiogfihaaGxP8
import Derived.Test.YtpfdieaiogfihaaGxQi
import Derived.Test.YtpfdieaiogfihaaGxwNM
namespace Go.Gx
open Classical
set_option maxHeartbeats 1000000

theorem thenF_fun {f g : XFunctor} (hf : IsFun f) (hg : IsFun g) (h : f.Target = g.Source) : IsFun (thenF f g) := by
  obtain ⟨fS, fT, fo, fa⟩ := f
  obtain ⟨gS, gT, go, ga⟩ := g
  dsimp only at h
  subst h
  obtain ⟨cS, cT, f1, f2, f3, f4, f5, f6, f7, f8⟩ := hf
  obtain ⟨cT', cU, g1, g2, g3, g4, g5, g6, g7, g8⟩ := hg
  dsimp only at *
  have hS := cS.1.shp
  have hT := cT.1.shp
  have l1 := thenL_length fo go
  have l2 := thenL_length fa ga
  have eo : ∀ x, 0 ≤ x → x < (fo.length : Int) → el (thenL fo go) x = el go (el fo x) := fun x h0 h1 => el_thenL h0 h1
  have ea : ∀ x, 0 ≤ x → x < (fa.length : Int) → el (thenL fa ga) x = el ga (el fa x) := fun x h0 h1 => el_thenL h0 h1
  have lt := hS.lto
  refine ⟨cS, cU, ?_, ?_, ?_, ?_, ?_, ?_, ?_, ?_⟩ <;> dsimp only [thenF]
  · omega
  · omega
  · intro i i0 i1
    rw [l1] at i1
    have x := f3 i i0 i1
    rw [eo i i0 i1]; exact g3 _ x.1 (by omega)
  · intro i i0 i1
    rw [l2] at i1
    have x := f4 i i0 i1
    rw [ea i i0 i1]; exact g4 _ x.1 (by omega)
  · intro a a0 a1
    have x := f4 a a0 (by omega)
    have y := hS.from_in a a0 a1
    rw [ea a a0 (by omega), eo _ y.1 (by omega), g5 _ x.1 x.2, f5 a a0 a1]
  · intro a a0 a1
    have x := f4 a a0 (by omega)
    have y := hS.to_in a a0 a1
    rw [ea a a0 (by omega), eo _ y.1 (by omega), g6 _ x.1 x.2, f6 a a0 a1]
  · intro x x0 x1
    have y := hS.id_in x x0 x1
    have z := f3 x x0 (by omega)
    rw [ea _ y.1 (by omega), eo x x0 (by omega), f7 x x0 x1, g7 _ z.1 z.2]
  · intro a b a0 a1 b0 b1 hab
    have y := hS.yes a b a0 a1 b0 b1 hab
    have xa := f4 a a0 (by omega)
    have xb := f4 b b0 (by omega)
    rw [ea a a0 (by omega), ea b b0 (by omega), ea _ y.1 (by omega), f8 a b a0 a1 b0 b1 hab, g8 _ _ xa.1 xa.2 xb.1 xb.2 (by rw [f6 a a0 a1, f5 b b0 b1, hab])]

theorem nat_iff {f g : XFunctor} {c : List Int} (hf : IsFun f) (hg : IsFun g) (hp : Par f g) : IsNat ⟨f, g, c⟩ ↔ Ends f g c ∧ Squares ⟨f, g, c⟩ :=
  ⟨fun h => ⟨h.1.2.2.2, h.2⟩, fun h => ⟨⟨hf, hg, hp, h.1⟩, h.2⟩⟩

theorem l02Then_eq {c : XCategory} {i j : Int} (h0 : 0 ≤ i) (h1 : i < (c.Composites.length : Int)) (h2 : 0 ≤ j) (h3 : j < ((el c.Composites i).length : Int)) : M.spec_l02Then c i j = some (cmp c i j) := by
  unfold M.spec_l02Then
  rw [idx_el h0 h1]
  show (idx (el c.Composites i) j).bind _ = _
  rw [idx_el h2 h3]; rfl
/-- Two arrows that stand in the table. -/
theorem l02Then_in {c : XCategory} (hc : Shp c) {i j : Int} (h0 : 0 ≤ i ∧ i < (c.From.length : Int)) (h2 : 0 ≤ j ∧ j < (c.From.length : Int)) : M.spec_l02Then c i j = some (cmp c i j) := by
  have := hc.lco
  have := hc.row i h0.1 h0.2
  exact l02Then_eq h0.1 (by omega) h2.1 (by omega)
theorem then_in {c : XCategory} (hc : Shp c) {i j : Int} (h0 : 0 ≤ i ∧ i < (c.From.length : Int)) (h2 : 0 ≤ j ∧ j < (c.From.length : Int)) : M.impl_Category_then c i j = some (cmp c i j) := by
  have := hc.lco
  have := hc.row i h0.1 h0.2
  exact then_eq h0.1 (by omega) h2.1 (by omega)

theorem l15Natural_eq {f g : XFunctor} {c : List Int} (sc : Small c) (hf : IsFun f) (hg : IsFun g) (hp : Par f g) : M.spec_l15Natural f g c = some (decide (IsNat ⟨f, g, c⟩)) := by
  apply Ret.ask
  rw [nat_iff hf hg hp]
  have hS := hf.1.1.shp
  have hT := hf.2.1.1.shp
  have m40 := hS.m40
  have n8 := hS.n8
  have lT := hT.lto
  have lo := hf.2.2.lo
  have la := hf.2.2.la
  have lo' := hg.2.2.lo
  have p1 : f.Source = g.Source := hp.1
  rw [← p1] at lo'
  unfold M.spec_l15Natural
  simp only [bne_iff_ne, ne_eq]
  refine Ret.ite (fun h => Ret.some ⟨(fun h => by cases h), fun e => absurd (by have := e.1.1; omega) h⟩) (fun h => ?_)
  have hl : (c.length : Int) = (f.Objects.length : Int) := by simpa using h
  refine Ret.call (l01Map_eq sc) (Ret.ite (fun hin => ?_) (fun hin => Ret.some ⟨(fun h => by cases h), fun e => absurd (decide_eq_true e.1.2.1) hin⟩))
  have hin := of_decide_eq_true hin
  refine Ret.all (c.length : Int) (fun i => el f.Target.From (el c i) = el f.Objects i ∧ el f.Target.To (el c i) = el g.Objects i) (by omega) (by omega) ?_ ?_
  · intro i next i0 i1 hp' hn1
    have x := hin i i0 i1
    rw [if_pos (decide_eq_true i1)]
    refine Ret.idx i0 i1 (Ret.idx x.1 x.2 (Ret.idx i0 (by omega) (Ret.ite (fun e1 => Ret.some ⟨(fun h => by cases h), fun e => absurd (e.1.2.2 i i0 i1).1 e1⟩) (fun e1 => ?_))))
    refine Ret.idx x.1 (by omega) (Ret.idx i0 (by omega) (Ret.ite (fun e2 => Ret.some ⟨(fun h => by cases h), fun e => absurd (e.1.2.2 i i0 i1).2 e2⟩) (fun e2 => hn1 ⟨Decidable.not_not.1 e1, Decidable.not_not.1 e2⟩)))
  · intro next hE
    rw [if_neg (by simp)]
    have he : Ends f g c := ⟨by omega, hin, hE⟩
    have hsh : ShapeT ⟨f, g, c⟩ := ⟨hf, hg, hp, he⟩
    refine Ret.all (f.Source.From.length : Int) (fun a => Sq f g c a) (by omega) (by omega) ?_ ?_
    · intro a next a0 a1 hq hn1
      obtain ⟨b1, b2, b3, b4, b5, b6, b7, b8, b9⟩ := hsh.facts (a := a) a0 (by dsimp only; omega)
      dsimp only at b1 b2 b3 b4 b5 b6 b7 b8 b9
      rw [if_pos (decide_eq_true a1)]
      refine Ret.idx a0 (by omega) (Ret.idx a0 (by omega) (Ret.idx b6.1 b6.2 (Ret.call (l02Then_in hT b4 b8) ?_)))
      refine Ret.idx a0 (by omega) (Ret.idx b7.1 b7.2 (Ret.idx a0 (by omega) (Ret.call (l02Then_in hT b9 b5) ?_)))
      refine Ret.ite (fun e1 => Ret.some ⟨(fun h => by cases h), fun e => absurd (e.2 a a0 (by dsimp only; omega)) e1⟩) (fun e1 => hn1 (Decidable.not_not.1 e1))
    · intro next hq
      rw [if_neg (by simp)]
      exact Ret.some ⟨fun _ => ⟨he, fun a a0 a1 => hq a a0 (by dsimp only at a1; omega)⟩, fun _ => rfl⟩
end Go.Gx
