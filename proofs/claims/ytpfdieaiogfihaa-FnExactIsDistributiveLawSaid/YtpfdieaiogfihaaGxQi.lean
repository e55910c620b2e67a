/- Plain laws: the identity functor is a functor. -/
import Derived.Test.YtpfdieaiogfihaaGxPu
namespace Go.Gx
open Classical
set_option maxHeartbeats 1000000

/-- The identity of a category is a functor. -/
theorem idF_fun {c : XCategory} (h : IsCat c) : IsFun (idF c) := by
  have hS := h.1.shp
  have n0 := hS.n0
  have lt := hS.lto
  have lo : ((idF c).Objects.length : Int) = c.Objects := by unfold idF; dsimp only; rw [tab_length]; omega
  have la : ((idF c).Arrows.length : Int) = (c.From.length : Int) := by unfold idF; dsimp only; rw [tab_length]; omega
  have eo : ∀ x, 0 ≤ x → x < c.Objects → el (idF c).Objects x = x := fun x h0 h1 => el_tab (f := fun j => j) h0 h1
  have ea : ∀ x, 0 ≤ x → x < (c.From.length : Int) → el (idF c).Arrows x = x := fun x h0 h1 => el_tab (f := fun j => j) h0 h1
  refine ⟨h, h, lo, la, ?_, ?_, ?_, ?_, ?_, ?_⟩
  · intro i i0 i1
    rw [lo] at i1; rw [eo i i0 i1]; exact ⟨i0, i1⟩
  · intro i i0 i1
    rw [la] at i1; rw [ea i i0 i1]; exact ⟨i0, i1⟩
  · intro a a0 a1
    have x := hS.from_in a a0 a1
    show el c.From (el (idF c).Arrows a) = el (idF c).Objects (el c.From a)
    rw [ea a a0 a1, eo _ x.1 x.2]
  · intro a a0 a1
    have x := hS.to_in a a0 a1
    show el c.To (el (idF c).Arrows a) = el (idF c).Objects (el c.To a)
    rw [ea a a0 a1, eo _ x.1 x.2]
  · intro x x0 x1
    have y := hS.id_in x x0 x1
    show el (idF c).Arrows (el c.Identity x) = el c.Identity (el (idF c).Objects x)
    rw [eo x x0 x1, ea _ y.1 y.2]
  · intro a b a0 a1 b0 b1 hab
    have y := hS.yes a b a0 a1 b0 b1 hab
    show el (idF c).Arrows (cmp c a b) = cmp c (el (idF c).Arrows a) (el (idF c).Arrows b)
    rw [ea a a0 a1, ea b b0 b1, ea _ y.1 y.2]
end Go.Gx
