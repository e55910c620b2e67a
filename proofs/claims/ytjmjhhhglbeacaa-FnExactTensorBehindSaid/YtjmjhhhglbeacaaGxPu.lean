/- Plain laws: the first numbers, the identity functor. -/
import Derived.Test.YtjmjhhhglbeacaaGxPm
import Derived.Test.YtjmjhhhglbeacaaGxNuM
namespace Go.Gx
open Classical
set_option maxHeartbeats 2000000

def idF (c : XCategory) : XFunctor := ⟨c, c, tab c.Objects fun j => j, tab (c.From.length : Int) fun j => j⟩

end Go.Gx
