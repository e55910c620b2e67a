/- Plain laws: units of a category. -/
import Derived.Test.YtpfdieaiogfihaaGxQt
namespace Go.Gx
open Classical
set_option maxHeartbeats 1000000

theorem l02Unit_eq {c : XCategory} (hc : Shp c) {f : Int} (h : 0 ≤ f ∧ f < (c.From.length : Int)) : M.spec_l02Unit c f = some (decide (el c.Identity (el c.From f) = f)) := by
  have x := hc.from_in f h.1 h.2
  have l := hc.lid
  unfold M.spec_l02Unit
  rw [idx_el h.1 h.2]
  simp only [Option.bind_some]
  rw [idx_el x.1 (by omega)]
  simp only [Option.bind_some]
  exact congrArg some (by rw [Bool.eq_iff_iff, beq_iff_eq, decide_eq_true_iff])

end Go.Gx
