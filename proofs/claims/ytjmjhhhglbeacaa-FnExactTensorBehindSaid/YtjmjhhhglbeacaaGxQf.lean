/- Plain laws: two functors. -/
import Derived.Test.YtjmjhhhglbeacaaGxPh
import Derived.Test.YtjmjhhhglbeacaaGxvFM
namespace Go.Gx
open Classical
set_option maxHeartbeats 1000000

/-- Small lists of small lists. -/
def SmallX (l : List (List Int)) : Prop := Small l ∧ ∀ r ∈ l, Small r
theorem SmallX.nil : SmallX [] := ⟨by simp, by simp⟩
end Go.Gx
