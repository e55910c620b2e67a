/- Plain laws: the first numbers, the identity functor. -/
import Derived.Test.YtjmjhhhglbeacaaGxPm
import Derived.Test.YtjmjhhhglbeacaaGxNuM
namespace Go.Gx
open Classical
set_option maxHeartbeats 2000000

end Go.Gx
