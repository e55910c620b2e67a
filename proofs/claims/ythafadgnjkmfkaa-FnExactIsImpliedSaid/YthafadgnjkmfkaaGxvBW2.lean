/- Walks. Printed by wip/gen. -/
import Derived.Test.YthafadgnjkmfkaaGxvBW1
namespace Go.Proofs.Ythafadgnjkmfkaa.WvB
open Go.Gx

end Go.Proofs.Ythafadgnjkmfkaa.WvB
