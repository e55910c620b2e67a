/- Plain laws: lists after each other; transformations: copies, marks. -/
import Derived.Test.YtjmjhhhglbeacaaGxPm
import Derived.Test.YtjmjhhhglbeacaaGxL6M
namespace Go.Gx
open Classical
set_option maxHeartbeats 1000000

structure SmallT (t : XTransformation) : Prop where
  s1 : SmallF t.Source
  s2 : SmallF t.Target
  s3 : Small t.Components

def zeroT : XTransformation := ⟨zeroF, zeroF, []⟩
end Go.Gx
