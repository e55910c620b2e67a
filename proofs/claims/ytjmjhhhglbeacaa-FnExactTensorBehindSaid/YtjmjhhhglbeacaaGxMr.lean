/- Rows that are replaced; what is lent as soon as it is made. -/
import Derived.Test.YtjmjhhhglbeacaaGxE1
namespace Go.Gx
section
variable {α : Type} {e : Enc α} {np : Nat} {st : St}

end
end Go.Gx
