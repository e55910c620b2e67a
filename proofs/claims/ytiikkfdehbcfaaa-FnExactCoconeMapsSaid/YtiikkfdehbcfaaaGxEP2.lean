/- Laid together: part 2. -/
import Derived.Test.YtiikkfdehbcfaaaGxEP0
import Derived.Test.YtiikkfdehbcfaaaGxEM0
/- Plain laws: products of categories. -/
namespace Go.Gx
open Classical
set_option maxHeartbeats 2000000

theorem mulb {i j n m : Int} (i0 : 0 ≤ i) (h : i < n) (h0 : 0 ≤ j) (h1 : j < m) : 0 ≤ i * m ∧ i * m + j < n * m ∧ i * m + m ≤ n * m := by
  have e1 : (i + 1) * m ≤ n * m := Int.mul_le_mul_of_nonneg_right (by omega) (by omega)
  rw [Int.add_mul, Int.one_mul] at e1
  have e2 := Int.mul_nonneg i0 (show 0 ≤ m by omega)
  omega
theorem mulB {n m N M : Int} (h0 : 0 ≤ n) (h1 : n ≤ N) (h2 : 0 ≤ m) (h3 : m ≤ M) : 0 ≤ n * m ∧ n * m ≤ N * M :=
  ⟨Int.mul_nonneg h0 h2, Int.mul_le_mul h1 h3 h2 (by omega)⟩
theorem parts {k n m : Int} (h0 : 0 ≤ k) (h1 : k < n * m) (hm : 0 ≤ m) : 0 < m ∧ 0 ≤ k / m ∧ k / m < n ∧ 0 ≤ k % m ∧ k % m < m := by
  have hm : 0 < m := by
    rcases Int.lt_or_eq_of_le hm with h | h
    · exact h
    · rw [← h, Int.mul_zero] at h1; omega
  exact ⟨hm, Int.ediv_nonneg h0 (by omega), Int.ediv_lt_of_lt_mul hm h1, Int.emod_nonneg _ (by omega), Int.emod_lt_of_pos _ hm⟩
/-- Two numbers as one, over all pairs. -/
abbrev tab2 {α : Type} (n m : Int) (f : Int → Int → α) : List α := tab (n * m) fun k => f (k / m) (k % m)
theorem tab_len' (n : Int) {α : Type} (f : Int → α) (h : 0 ≤ n) : ((tab n f).length : Int) = n := by rw [tab_length]; omega

end Go.Gx

/- Plain laws: the product as impl makes it; projections. -/
namespace Go.Gx
open Classical
set_option maxHeartbeats 2000000

end Go.Gx

/- Plain laws: pairs of lists; products of functors. -/
namespace Go.Gx
open Classical
set_option maxHeartbeats 1000000

abbrev pairF (a b : List Int) (n : Int) (i j : Int) : Int := el a i * n + el b j
def pairL (a b : List Int) (n : Int) : List Int := tab2 (a.length : Int) (b.length : Int) (pairF a b n)
/-- Codes of pairs are small numbers. -/
structure PairOk (a b : List Int) (n A : Int) : Prop where
  hA : A ≤ 40
  hn : n ≤ 40
  la : (a.length : Int) ≤ 40
  lb : (b.length : Int) ≤ 40
  ia : In A a
  ib : In n b

theorem PairOk.len {a b : List Int} {n A : Int} (h : PairOk a b n A) {i j : Int} (i0 : 0 ≤ i) (i1 : i < (a.length : Int)) (j0 : 0 ≤ j) (j1 : j < (b.length : Int)) (F : Int → Int) :
    ((tab (i * (b.length : Int) + j) F).length : Int) ≤ 1600 := by
  have hb1 := mulb i0 i1 j0 j1
  have hB := mulB (n := (a.length : Int)) (m := (b.length : Int)) (N := 40) (M := 40) (by omega) h.la (by omega) h.lb
  rw [tab_len' _ _ (by omega)]; omega
theorem PairOk.small {a b : List Int} {n A : Int} (h : PairOk a b n A) : Small (pairL a b n) := by
  have hB := mulB (n := (a.length : Int)) (m := (b.length : Int)) (N := 40) (M := 40) (by omega) h.la (by omega) h.lb
  unfold Small pairL; rw [tab_len' _ _ hB.1]; omega

end Go.Gx

/- The law of HomProfunctor. -/
namespace Go.Gx
open Classical
set_option maxHeartbeats 1000000

/-! ### marks on lists of lists of lists -/
def rS (x : List (List Int)) (k : Int) : Int × List (List Int) := (M.laws_markInt64SS x k).getD (0, [])
def ksN (l : List (List (List Int))) (k : Int) : Nat → Int
  | 0 => k
  | i + 1 => (rS (el l (i : Int)) (ksN l k i)).1
def ks (l : List (List (List Int))) (k i : Int) : Int := ksN l k i.toNat
def SmallR (r : List (List Int)) : Prop := Small r ∧ ∀ q ∈ r, Small q

structure SmallP (p : XProfunctor) : Prop where
  s1 : SmallC p.Source
  s2 : SmallC p.Target
  s3 : SmallR p.Sizes
  l4 : (p.Before.length : Int) ≤ 1024
  s4 : ∀ r ∈ p.Before, SmallR r
  l5 : (p.Behind.length : Int) ≤ 1024
  s5 : ∀ r ∈ p.Behind, SmallR r

/-! ### the identity -/
end Go.Gx

/- Plain laws: set functors. -/
namespace Go.Gx
open Classical
set_option maxHeartbeats 4000000

structure SmallG (F : XSetFunctor) : Prop where
  s1 : SmallC F.Shape
  s2 : Small F.Sizes
  s3 : Small F.Actions
  s4 : ∀ r ∈ F.Actions, Small r
structure FitsG (F : XSetFunctor) : Prop where
  f1 : FitsC F.Shape
  f2 : Fits F.Sizes
  f3 : Fits F.Actions
  f4 : ∀ r ∈ F.Actions, Fits r
/-! ### which are set functors -/
def ActOk (F : XSetFunctor) (a : Int) : Prop := ((el F.Actions a).length : Int) = el F.Sizes (el F.Shape.From a) ∧ In (el F.Sizes (el F.Shape.To a)) (el F.Actions a)
structure ShpG (F : XSetFunctor) : Prop where
  cat : IsCat F.Shape
  ls : (F.Sizes.length : Int) = F.Shape.Objects
  la : (F.Actions.length : Int) = (F.Shape.From.length : Int)
  siz : ∀ i, 0 ≤ i → i < (F.Sizes.length : Int) → 0 ≤ el F.Sizes i ∧ el F.Sizes i ≤ 16
  act : ∀ a, 0 ≤ a → a < (F.Actions.length : Int) → ActOk F a

/-- The image of e under the action of a. -/
abbrev act (F : XSetFunctor) (a e : Int) : Int := el (el F.Actions a) e
def UnitG (F : XSetFunctor) : Prop := ∀ x, 0 ≤ x → x < F.Shape.Objects → ∀ e, 0 ≤ e → e < el F.Sizes x → act F (el F.Shape.Identity x) e = e
def CompG (F : XSetFunctor) : Prop := ∀ f, 0 ≤ f → f < (F.Shape.From.length : Int) → ∀ g, 0 ≤ g → g < (F.Shape.From.length : Int) → el F.Shape.To f = el F.Shape.From g →
  ∀ e, 0 ≤ e → e < el F.Sizes (el F.Shape.From f) → act F (cmp F.Shape f g) e = act F g (act F f e)

def IsSet (F : XSetFunctor) : Prop := ShpG F ∧ UnitG F ∧ CompG F

end Go.Gx

/- The law of SumSets. -/
namespace Go.Gx
open Classical
set_option maxHeartbeats 2000000

/-- Two set functors on one shape. -/
structure TwoG (F G : XSetFunctor) : Prop where
  f : IsSet F
  g : IsSet G
  e : F.Shape = G.Shape

/-- What the indices need. -/
theorem TwoG.sz {F G : XSetFunctor} (h : TwoG F G) {x : Int} (x0 : 0 ≤ x) (x1 : x < (F.Sizes.length : Int)) :
    x < (G.Sizes.length : Int) ∧ (0 ≤ el F.Sizes x ∧ el F.Sizes x ≤ 16) ∧ (0 ≤ el G.Sizes x ∧ el G.Sizes x ≤ 16) := by
  have l1 := h.f.1.ls
  have l2 := h.g.1.ls
  rw [← h.e] at l2
  exact ⟨by omega, h.f.1.siz x x0 x1, h.g.1.siz x x0 (by omega)⟩
theorem TwoG.ac {F G : XSetFunctor} (h : TwoG F G) {a : Int} (a0 : 0 ≤ a) (a1 : a < (F.Actions.length : Int)) :
    a < (G.Actions.length : Int) ∧ a < (F.Shape.To.length : Int) ∧ (0 ≤ el F.Shape.To a ∧ el F.Shape.To a < (F.Sizes.length : Int)) ∧ ((el F.Actions a).length : Int) ≤ 16 ∧ ((el G.Actions a).length : Int) ≤ 16 ∧
    ∀ i, 0 ≤ i → i < ((el G.Actions a).length : Int) → 0 ≤ el (el G.Actions a) i ∧ el (el G.Actions a) i ≤ 1048576 := by
  have l1 := h.f.1.la
  have l2 := h.g.1.la
  have l3 := h.f.1.ls
  have l4 := h.g.1.ls
  have e := h.e
  rw [← e] at l2 l4
  have hc := h.f.1.cat.1.shp
  have lt := hc.lto
  have t := hc.to_in a a0 (by omega)
  have s := hc.from_in a a0 (by omega)
  have f1 := (h.f.1.act a a0 a1).1
  have g1 := (h.g.1.act a a0 (by omega)).1
  have g2 := (h.g.1.act a a0 (by omega)).2
  rw [← e] at g1 g2
  have z1 := h.f.1.siz _ s.1 (by omega)
  have z2 := h.g.1.siz _ s.1 (by omega)
  have z3 := h.g.1.siz _ t.1 (by omega)
  refine ⟨by omega, by omega, ⟨t.1, by omega⟩, by omega, by omega, fun i i0 i1 => ?_⟩
  have := g2 i i0 i1
  omega

end Go.Gx

/- Plain laws: profunctors with a limit; loops that lay lists one behind the other. -/
namespace Go.Gx
open Classical
set_option maxHeartbeats 1000000

/-! ### lists one behind the other -/
def cat (n : Int) (H : Int → List Int) : List Int := (tab n H).flatten
end Go.Gx
