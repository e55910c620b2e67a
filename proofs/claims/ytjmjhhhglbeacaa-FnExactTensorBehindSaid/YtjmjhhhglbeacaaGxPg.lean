/- Plain laws: lists after each other; transformations: copies, marks. -/
import Derived.Test.YtjmjhhhglbeacaaGxPm
import Derived.Test.YtjmjhhhglbeacaaGxL6M
namespace Go.Gx
open Classical
set_option maxHeartbeats 1000000

def thenL (a b : List Int) : List Int := tab (a.length : Int) fun i => el b (el a i)

structure SmallT (t : XTransformation) : Prop where
  s1 : SmallF t.Source
  s2 : SmallF t.Target
  s3 : Small t.Components

theorem Fcopy_eq {f : XFunctor} (h : SmallF f) : M.impl_Functor_copy f = some f := by
  unfold M.impl_Functor_copy
  rw [functor_eq h.s1 h.s2 h.s3 h.s4]; rfl
def zeroT : XTransformation := ⟨zeroF, zeroF, []⟩
end Go.Gx
