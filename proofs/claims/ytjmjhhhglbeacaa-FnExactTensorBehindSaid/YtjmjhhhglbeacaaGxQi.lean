/- Plain laws: the identity functor is a functor. -/
import Derived.Test.YtjmjhhhglbeacaaGxPu
namespace Go.Gx
open Classical
set_option maxHeartbeats 1000000

end Go.Gx
