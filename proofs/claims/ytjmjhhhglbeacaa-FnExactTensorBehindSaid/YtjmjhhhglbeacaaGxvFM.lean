/- Models of the functions. Printed by wip/gen. -/
import Derived.Test.YtjmjhhhglbeacaaGxL8M
import Derived.Test.YtjmjhhhglbeacaaGxE1
namespace Go.Gx

end Go.Gx
