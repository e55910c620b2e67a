/- Walks. Printed by wip/gen. -/
import Derived.Test.YtiikkfdehbcfaaaGxzSW0
namespace Go.Proofs.Ytiikkfdehbcfaaa.WzS
open Go.Gx Go.Proofs.Ytiikkfdehbcfaaa.WvB Go.Proofs.Ytiikkfdehbcfaaa.WyN

end Go.Proofs.Ytiikkfdehbcfaaa.WzS
