/- Laid together: part 1. -/
import Derived.Test.YtiikkfdehbcfaaaGxEM0
import Derived.Test.YtiikkfdehbcfaaaGxE1
/- Models of the functions. Printed by wip/gen. -/
namespace Go.Gx

end Go.Gx
