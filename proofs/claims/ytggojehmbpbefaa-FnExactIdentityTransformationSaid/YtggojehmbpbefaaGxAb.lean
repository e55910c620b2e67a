/- Short forms for the states that are printed. -/
import Derived.Test.YtggojehmbpbefaaGxY
namespace Go.Gx
/-- A struct whose owned slices are the roots q, q + 1, .. (by place). -/
def rsC (q : Nat) : List D → List D
  | [] => []
  | .fr _ n _ :: l => .rs q 0 n :: rsC (q + 1) l
  | d :: l => d :: rsC (q + 1) l
def rsR (q : Nat) : List D → List Nat
  | [] => []
  | .fr _ _ _ :: l => q :: rsR (q + 1) l
  | _ :: l => rsR (q + 1) l
def rsS (q : Nat) : List D → St
  | [] => []
  | .fr sz _ ds :: l => (2 * q + 1, .r (.arr sz ds [])) :: rsS (q + 1) l
  | _ :: l => rsS (q + 1) l
/-- A box: borrowed, or owned. -/
def bxB (k : Nat) (ds : List D) : Nat × Ent := (k, .r (.arr 1 ds []))
def bxO (k q : Nat) (ds : List D) : Nat × Ent := (k, .r (.arr 1 (rsC q ds) (rsR q ds)))
end Go.Gx
