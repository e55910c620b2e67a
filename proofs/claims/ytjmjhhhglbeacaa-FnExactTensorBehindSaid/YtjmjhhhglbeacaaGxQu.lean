/- Plain laws: units of a category. -/
import Derived.Test.YtjmjhhhglbeacaaGxQt
namespace Go.Gx
open Classical
set_option maxHeartbeats 1000000

end Go.Gx
