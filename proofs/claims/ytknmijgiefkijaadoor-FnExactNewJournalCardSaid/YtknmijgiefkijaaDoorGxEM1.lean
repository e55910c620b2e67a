/- Laid together: part 1. -/
import Derived.Test.YtknmijgiefkijaaDoorGxEM0
import Derived.Test.YtknmijgiefkijaaDoorGxE2
/- Models of the functions. Printed by wip/gen. -/
namespace Go.Gx

structure XChange where
  Kind : Int
  First : Int
  Second : Int
  Third : Int
def R.XChange (x : XChange) : Prop := (I64 x.Kind) ∧ (I64 x.First) ∧ (I64 x.Second) ∧ (I64 x.Third)
structure Xl39Data where
  sizes_ : List Int
  maps_ : List (List Int)
def R.Xl39Data (x : Xl39Data) : Prop := (AllL I64 x.sizes_) ∧ (AllL (AllL I64) x.maps_)
structure Xdata where
  sizes_ : List Int
  maps_ : List (List Int)
def R.Xdata (x : Xdata) : Prop := (AllL I64 x.sizes_) ∧ (AllL (AllL I64) x.maps_)
end Go.Gx
