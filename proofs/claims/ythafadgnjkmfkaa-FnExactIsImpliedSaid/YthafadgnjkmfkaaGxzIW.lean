/- Walks. Printed by wip/gen. -/
import Derived.Test.YthafadgnjkmfkaaGxEM0
import Derived.Test.YthafadgnjkmfkaaGxEO0
import Derived.Test.YthafadgnjkmfkaaGxzUW
import Derived.Test.YthafadgnjkmfkaaGxvSW
import Derived.Test.YthafadgnjkmfkaaGxyOW
import Derived.KernelRfl
namespace Go.Proofs.Ythafadgnjkmfkaa.WzI
open Go.Gx Go.Proofs.Ythafadgnjkmfkaa.WvB Go.Proofs.Ythafadgnjkmfkaa.WyN Go.Proofs.Ythafadgnjkmfkaa.WzC Go.Proofs.Ythafadgnjkmfkaa.WvI Go.Proofs.Ythafadgnjkmfkaa.WzU Go.Proofs.Ythafadgnjkmfkaa.WvS Go.Proofs.Ythafadgnjkmfkaa.WyO

theorem eXCategory_r : EncR eXCategory := (eA_r (eC_r eI_r _) (eA_r (eC_r (eS_r eI_ok) _) (eA_r (eC_r (eS_r eI_ok) _) (eA_r (eC_r (eS_r eI_ok) _) (eC_r (eS_r (eS_ok eI_ok)) _)))))
theorem eXQuery_r : EncR eXQuery := (eA_r (eC_r (eS_r eI_ok) _) (eA_r (eC_r (eS_r eXTerm_ok) _) (eA_r (eC_r (eS_r eXTerm_ok) _) (eC_r (eS_r eI_ok) _))))
theorem eXSetFunctor_r : EncR eXSetFunctor := (eA_r (eC_r eXCategory_r _) (eA_r (eC_r (eS_r eI_ok) _) (eC_r (eS_r (eS_ok eI_ok)) _)))
def T : Tab := [(2, ⟨.int .i64, 1, 8, [.int .i64 0]⟩),
  (3, ⟨.int .i64, 1, 8, [.int .i64 0]⟩),
  (4, ⟨.bool, 1, 1, [.bool false]⟩),
  (22, ⟨.slice 2, 1, 24, [.slice .none 0 0]⟩),
  (23, ⟨.slice 22, 1, 24, [.slice .none 0 0]⟩),
  (25, ⟨.struct #[⟨"Objects", 2, 0, false, "", "", 0⟩, ⟨"From", 22, 1, false, "", "", 8⟩, ⟨"To", 22, 2, false, "", "", 32⟩, ⟨"Identity", 22, 3, false, "", "", 56⟩, ⟨"Composites", 23, 4, false, "", "", 80⟩], 5, 104, [.int .i64 0, .slice .none 0 0, .slice .none 0 0, .slice .none 0 0, .slice .none 0 0]⟩),
  (29, ⟨.struct #[⟨"Objects", 2, 0, false, "", "", 0⟩, ⟨"From", 22, 1, false, "", "", 8⟩, ⟨"To", 22, 2, false, "", "", 32⟩, ⟨"Identity", 22, 3, false, "", "", 56⟩, ⟨"Composites", 23, 4, false, "", "", 80⟩], 5, 104, [.int .i64 0, .slice .none 0 0, .slice .none 0 0, .slice .none 0 0, .slice .none 0 0]⟩),
  (35, ⟨.struct #[⟨"Shape", 29, 0, false, "", "", 0⟩, ⟨"Sizes", 22, 5, false, "", "", 104⟩, ⟨"Actions", 23, 6, false, "", "", 128⟩], 7, 152, [.int .i64 0, .slice .none 0 0, .slice .none 0 0, .slice .none 0 0, .slice .none 0 0, .slice .none 0 0, .slice .none 0 0]⟩),
  (42, ⟨.slice 46, 1, 24, [.slice .none 0 0]⟩),
  (44, ⟨.struct #[⟨"Variables", 22, 0, false, "", "", 0⟩, ⟨"Left", 42, 1, false, "", "", 24⟩, ⟨"Right", 42, 2, false, "", "", 48⟩, ⟨"Output", 22, 3, false, "", "", 72⟩], 4, 96, [.slice .none 0 0, .slice .none 0 0, .slice .none 0 0, .slice .none 0 0]⟩),
  (46, ⟨.struct #[⟨"Variable", 2, 0, false, "", "", 0⟩, ⟨"Arrow", 2, 1, false, "", "", 8⟩], 2, 16, [.int .i64 0, .int .i64 0]⟩),
  (52, ⟨.slice 56, 1, 24, [.slice .none 0 0]⟩),
  (54, ⟨.struct #[⟨"Variables", 22, 0, false, "", "", 0⟩, ⟨"Left", 52, 1, false, "", "", 24⟩, ⟨"Right", 52, 2, false, "", "", 48⟩, ⟨"Output", 22, 3, false, "", "", 72⟩], 4, 96, [.slice .none 0 0, .slice .none 0 0, .slice .none 0 0, .slice .none 0 0]⟩),
  (56, ⟨.struct #[⟨"Variable", 2, 0, false, "", "", 0⟩, ⟨"Arrow", 2, 1, false, "", "", 8⟩], 2, 16, [.int .i64 0, .int .i64 0]⟩),
  (94, ⟨.pointer 54, 1, 8, [.pointer .none]⟩),
  (125, ⟨.slice 94, 1, 24, [.slice .none 0 0]⟩),
  (128, ⟨.slice 131, 1, 24, [.slice .none 0 0]⟩),
  (131, ⟨.struct #[⟨"first", 2, 0, false, "", "loop.example/g01083/impl", 0⟩, ⟨"second", 2, 1, false, "", "loop.example/g01083/impl", 8⟩], 2, 16, [.int .i64 0, .int .i64 0]⟩),
  (132, ⟨.map 131 2, 1, 8, [.map .none]⟩),
  (138, ⟨.struct #[⟨"q", 94, 0, false, "", "loop.example/g01083/impl", 0⟩, ⟨"sets", 35, 1, false, "", "loop.example/g01083/impl", 8⟩, ⟨"class", 132, 8, false, "", "loop.example/g01083/impl", 160⟩], 9, 168, [.pointer .none, .int .i64 0, .slice .none 0 0, .slice .none 0 0, .slice .none 0 0, .slice .none 0 0, .slice .none 0 0, .slice .none 0 0, .map .none]⟩),
  (140, ⟨.slice 2, 1, 24, [.slice .none 0 0]⟩),
  (183, ⟨.slice 23, 1, 24, [.slice .none 0 0]⟩)]
theorem hT : TabOk Try.prog T := ⟨tiok (by kernel_rfl) (by kernel_rfl), tiok (by kernel_rfl) (by kernel_rfl), tiok (by kernel_rfl) (by kernel_rfl), tiok (by kernel_rfl) (by kernel_rfl), tiok (by kernel_rfl) (by kernel_rfl), tiok (by kernel_rfl) (by kernel_rfl), tiok (by kernel_rfl) (by kernel_rfl), tiok (by kernel_rfl) (by kernel_rfl), tiok (by kernel_rfl) (by kernel_rfl), tiok (by kernel_rfl) (by kernel_rfl), tiok (by kernel_rfl) (by kernel_rfl), tiok (by kernel_rfl) (by kernel_rfl), tiok (by kernel_rfl) (by kernel_rfl), tiok (by kernel_rfl) (by kernel_rfl), tiok (by kernel_rfl) (by kernel_rfl), tiok (by kernel_rfl) (by kernel_rfl), tiok (by kernel_rfl) (by kernel_rfl), tiok (by kernel_rfl) (by kernel_rfl), tiok (by kernel_rfl) (by kernel_rfl), tiok (by kernel_rfl) (by kernel_rfl), tiok (by kernel_rfl) (by kernel_rfl), tiok (by kernel_rfl) (by kernel_rfl), trivial⟩
theorem hm : Try.prog.follows .mixedOrders = true := by kernel_rfl

end Go.Proofs.Ythafadgnjkmfkaa.WzI
