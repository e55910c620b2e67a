/- The law of AlongFunctor. -/
import Derived.Test.YtjmjhhhglbeacaaGxPs
import Derived.Test.YtjmjhhhglbeacaaGxPh
import Derived.Test.YtjmjhhhglbeacaaGxQp
import Derived.Test.YtjmjhhhglbeacaaGxy47M
namespace Go.Gx
open Classical
set_option maxHeartbeats 1000000

def zeroG : XSetFunctor := ⟨⟨0, [], [], [], []⟩, [], []⟩
theorem zeroG_small : SmallG zeroG := ⟨zeroC_small, by simp [zeroG], by simp [zeroG], by simp [zeroG]⟩
end Go.Gx
