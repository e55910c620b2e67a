/- Plain laws: objects and arrows of a category, in range. -/
import Derived.Test.YtjmjhhhglbeacaaGxQv
import Derived.Test.YtjmjhhhglbeacaaGxwOM
namespace Go.Gx
open Classical
set_option maxHeartbeats 1000000

theorem l02Object_eq (c : XCategory) (x : Int) : M.spec_l02Object c x = some (decide (0 ≤ x ∧ x < c.Objects)) := by
  unfold M.spec_l02Object
  by_cases h : 0 ≤ x <;> simp [h]
theorem inR_eq {y n : Int} (h0 : 0 ≤ n) (h8 : n ≤ 1048576) : M.impl_inRange y 0 (IntKind.i64.wrap (n - 1)) = some (decide (0 ≤ y ∧ y < n)) := by
  rw [inRange_eq, wrap_in (by omega) (by omega)]
  congr 1
  rw [Bool.eq_iff_iff]
  simp only [Bool.and_eq_true, decide_eq_true_eq]
  constructor <;> intro h <;> exact ⟨h.1, by omega⟩
end Go.Gx
