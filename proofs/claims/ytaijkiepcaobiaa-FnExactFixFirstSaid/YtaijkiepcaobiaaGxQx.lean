/- Plain laws: functors out of a product. -/
import Derived.Test.YtaijkiepcaobiaaGxQp
import Derived.Test.YtaijkiepcaobiaaGxv08M
namespace Go.Gx
open Classical
set_option maxHeartbeats 1000000

def AllOk (a b : XCategory) (f : XFunctor) : Prop := IsCat a ∧ IsCat b ∧ IsFun f
theorem l02Object_eq (c : XCategory) (x : Int) : M.spec_l02Object c x = some (decide (0 ≤ x ∧ x < c.Objects)) := by
  unfold M.spec_l02Object
  by_cases h : 0 ≤ x <;> simp [h]

theorem l08Two_eq {a b : XCategory} {f : XFunctor} (ha : SmallC a) (hb : SmallC b) (hf : SmallF f) (i : Bool) :
    M.spec_l08Two a b f i = some (if AllOk a b f then (if i then (if f.Source = prodC a b then 0 else 5) else 2) else 1) := by
  unfold M.spec_l08Two AllOk
  rw [l02Is_eq ha, l02Is_eq hb, l06Is_eq hf]
  by_cases h1 : IsCat a
  case neg => simp [h1]
  by_cases h2 : IsCat b
  case neg => simp [h1, h2]
  by_cases h3 : IsFun f
  case neg => simp [h1, h2, h3]
  rw [if_pos (show IsCat a ∧ IsCat b ∧ IsFun f from ⟨h1, h2, h3⟩), dT h1, dT h2, dT h3, l03Product_eq h1.1.shp h2.1.shp]
  simp only [Option.bind_some, if_true]
  rw [l02Same_eq hf.s1 (prodC_small0 h1.1.shp h2.1.shp)]
  cases i with
  | false => rfl
  | true =>
    by_cases h4 : f.Source = prodC a b
    · rw [dT h4, if_pos h4]; rfl
    · rw [dF h4, if_neg h4]; rfl

theorem twoVariables_eq {a b : XCategory} {f : XFunctor} (ha : SmallC a) (hb : SmallC b) (hf : SmallF f) : M.impl_twoVariables a b f = some (if AllOk a b f then 0 else 1) := by
  unfold M.impl_twoVariables AllOk
  rw [areCategories_eq (by simp) (by simp [ha, hb]), isFunctor_eq hf]
  simp only [List.mem_cons, List.not_mem_nil, or_false, forall_eq_or_imp, forall_eq]
  by_cases h : IsCat a ∧ IsCat b
  · by_cases h3 : IsFun f
    · rw [dT h, dT h3, if_pos ⟨h.1, h.2, h3⟩]; rfl
    · rw [dT h, dF h3, if_neg (fun x => h3 x.2.2)]; rfl
  · rw [dF h, if_neg (fun x => h ⟨x.1, x.2.1⟩)]; rfl

theorem fromProduct_eq {a b : XCategory} {f : XFunctor} (hf : SmallF f) (h : AllOk a b f) : M.impl_fromProduct a b f = some (decide (f.Source = prodC a b)) := by
  unfold M.impl_fromProduct
  have ha := h.1.1.shp
  have hb := h.2.1.1.shp
  have hS := h.2.2.1.1.shp
  rw [product_eq ha hb]
  by_cases p : PFits a b
  · rw [if_pos p]
    simp only [Option.bind_some, if_true]
    rw [sameCategory_eq (prodC_small ha hb p) hf.s1]
    simp only [Option.bind_some]
    exact congrArg some (decide_eq_decide.2 eq_comm)
  · rw [if_neg p]
    have : ¬ f.Source = prodC a b := fun e => p (by
      have x := hS.n8
      have y := hS.m40
      rw [e] at x y
      rw [(prodC_len ha hb).1] at y
      exact ⟨x, y⟩)
    rw [dF this]; rfl

/-- What the indices into such a functor need. -/
theorem fix_idx {a b : XCategory} {f : XFunctor} (h : AllOk a b f) (e : f.Source = prodC a b) :
    (f.Objects.length : Int) = a.Objects * b.Objects ∧ (f.Arrows.length : Int) = (a.From.length : Int) * (b.From.length : Int) := by
  have l1 := h.2.2.2.2.lo
  have l2 := h.2.2.2.2.la
  rw [e] at l1 l2
  rw [(prodC_len h.1.1.shp h.2.1.1.shp).1] at l2
  exact ⟨l1, l2⟩
/-- A code of a pair, as the program counts it. -/
theorem code_in {x y n m : Int} (x0 : 0 ≤ x) (x1 : x < n) (y0 : 0 ≤ y) (y1 : y < m) (hn : n ≤ 40) (hm : m ≤ 40) :
    IntKind.i64.wrap (IntKind.i64.wrap (x * m) + y) = x * m + y ∧ 0 ≤ x * m + y ∧ x * m + y < n * m := by
  have h := mulb x0 x1 y0 y1
  have hB := mulB (n := n) (m := m) (N := 40) (M := 40) (by omega) hn (by omega) hm
  exact ⟨wrap2 (by omega) (by omega) (by omega), by omega, by omega⟩

theorem inR_eq {y n : Int} (h0 : 0 ≤ n) (h8 : n ≤ 1048576) : M.impl_inRange y 0 (IntKind.i64.wrap (n - 1)) = some (decide (0 ≤ y ∧ y < n)) := by
  rw [inRange_eq, wrap_in (by omega) (by omega)]
  congr 1
  rw [Bool.eq_iff_iff]
  simp only [Bool.and_eq_true, decide_eq_true_eq]
  constructor <;> intro h <;> exact ⟨h.1, by omega⟩
end Go.Gx
