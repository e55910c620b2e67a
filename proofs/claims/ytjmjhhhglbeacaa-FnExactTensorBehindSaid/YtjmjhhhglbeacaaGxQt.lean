/- Plain laws: functors after each other are functors; natural families. -/
import Derived.Test.YtjmjhhhglbeacaaGxP8
import Derived.Test.YtjmjhhhglbeacaaGxQi
import Derived.Test.YtjmjhhhglbeacaaGxwNM
namespace Go.Gx
open Classical
set_option maxHeartbeats 1000000

theorem l02Then_eq {c : XCategory} {i j : Int} (h0 : 0 ≤ i) (h1 : i < (c.Composites.length : Int)) (h2 : 0 ≤ j) (h3 : j < ((el c.Composites i).length : Int)) : M.spec_l02Then c i j = some (cmp c i j) := by
  unfold M.spec_l02Then
  rw [idx_el h0 h1]
  show (idx (el c.Composites i) j).bind _ = _
  rw [idx_el h2 h3]; rfl
/-- Two arrows that stand in the table. -/
theorem l02Then_in {c : XCategory} (hc : Shp c) {i j : Int} (h0 : 0 ≤ i ∧ i < (c.From.length : Int)) (h2 : 0 ≤ j ∧ j < (c.From.length : Int)) : M.spec_l02Then c i j = some (cmp c i j) := by
  have := hc.lco
  have := hc.row i h0.1 h0.2
  exact l02Then_eq h0.1 (by omega) h2.1 (by omega)
theorem then_in {c : XCategory} (hc : Shp c) {i j : Int} (h0 : 0 ≤ i ∧ i < (c.From.length : Int)) (h2 : 0 ≤ j ∧ j < (c.From.length : Int)) : M.impl_Category_then c i j = some (cmp c i j) := by
  have := hc.lco
  have := hc.row i h0.1 h0.2
  exact then_eq h0.1 (by omega) h2.1 (by omega)

end Go.Gx
