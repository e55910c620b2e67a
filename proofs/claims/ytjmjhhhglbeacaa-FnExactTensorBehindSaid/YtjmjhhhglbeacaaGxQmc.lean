/- Plain laws: objects of a monoidal category. -/
import Derived.Test.YtjmjhhhglbeacaaGxQmo
import Derived.Test.YtjmjhhhglbeacaaGxyCM
namespace Go.Gx
open Classical
set_option maxHeartbeats 1000000

theorem l35Objects_eq {m : XMonoidal} {l : List Int} (sm : SmallO m) (sl : Small l) : M.spec_l35Objects m l = some (if IsTen m then (if In m.On.Objects l then 0 else 2) else 1) := by
  unfold M.spec_l35Objects
  rw [l35Is_eq sm, l01Map_eq sl]
  by_cases h : IsTen m
  · by_cases h2 : In m.On.Objects l
    · rw [decide_eq_true h, if_pos h, if_pos h2, decide_eq_true h2]; rfl
    · rw [decide_eq_true h, if_pos h, if_neg h2, decide_eq_false h2]; rfl
  · rw [decide_eq_false h, if_neg h]; rfl
theorem monoidalCode_eq {m : XMonoidal} {l : List Int} (sm : SmallO m) (sl : Small l) : M.impl_monoidalCode m l = some (if IsTen m then (if In m.On.Objects l then 0 else 2) else 1) := by
  unfold M.impl_monoidalCode
  rw [isMonoidal_eq sm]
  by_cases h : IsTen m
  · have n0 := h.t.cat.1.shp.n0
    have n8 := h.t.cat.1.shp.n8
    rw [within_eq sl (by omega) (by omega)]
    by_cases h2 : In m.On.Objects l
    · rw [decide_eq_true h, if_pos h, if_pos h2, decide_eq_true h2]; rfl
    · rw [decide_eq_true h, if_pos h, if_neg h2, decide_eq_false h2]; rfl
  · rw [decide_eq_false h, if_neg h]; rfl
end Go.Gx
