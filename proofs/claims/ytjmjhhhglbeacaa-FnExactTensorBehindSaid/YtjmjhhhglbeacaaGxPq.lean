/- Plain laws: the product as impl makes it; projections. -/
import Derived.Test.YtjmjhhhglbeacaaGxPp
namespace Go.Gx
open Classical
set_option maxHeartbeats 2000000

end Go.Gx
