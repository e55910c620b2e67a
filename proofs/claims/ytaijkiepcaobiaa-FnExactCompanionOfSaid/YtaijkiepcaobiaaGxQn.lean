/- Plain laws: the profunctors of two functors with one target. -/
import Derived.Test.YtaijkiepcaobiaaGxP12
import Derived.Test.YtaijkiepcaobiaaGxQi
namespace Go.Gx
open Classical
set_option maxHeartbeats 1000000

theorem two_of {f g : XFunctor} (hf : IsFun f) (hg : IsFun g) (h : f.Target = g.Target) : Two f g :=
  ⟨hf.1.1.shp, hg.1.1.shp, hf.2.1.1.shp, hf.2.2.lo, hf.2.2.la, hg.2.2.lo, hg.2.2.la, hf.2.2.ina, by rw [h]; exact hg.2.2.ina⟩

end Go.Gx
