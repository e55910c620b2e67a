/- Walks. Printed by wip/gen. -/
import Derived.Test.YthafadgnjkmfkaaGxEM0
import Derived.Test.YthafadgnjkmfkaaGxEO0
import Derived.Test.YthafadgnjkmfkaaGxvQW
import Derived.Test.YthafadgnjkmfkaaGxyTW
import Derived.KernelRfl
namespace Go.Proofs.Ythafadgnjkmfkaa.WzE
open Go.Gx Go.Proofs.Ythafadgnjkmfkaa.WvB Go.Proofs.Ythafadgnjkmfkaa.WvS Go.Proofs.Ythafadgnjkmfkaa.WyN Go.Proofs.Ythafadgnjkmfkaa.WvQ Go.Proofs.Ythafadgnjkmfkaa.WyT

theorem eXCategory_r : EncR eXCategory := (eA_r (eC_r eI_r _) (eA_r (eC_r (eS_r eI_ok) _) (eA_r (eC_r (eS_r eI_ok) _) (eA_r (eC_r (eS_r eI_ok) _) (eC_r (eS_r (eS_ok eI_ok)) _)))))
theorem eXFunctor_r : EncR eXFunctor := (eA_r (eC_r eXCategory_r _) (eA_r (eC_r eXCategory_r _) (eA_r (eC_r (eS_r eI_ok) _) (eC_r (eS_r eI_ok) _))))
theorem eXSetFunctor_r : EncR eXSetFunctor := (eA_r (eC_r eXCategory_r _) (eA_r (eC_r (eS_r eI_ok) _) (eC_r (eS_r (eS_ok eI_ok)) _)))
def T : Tab := [(2, ⟨.int .i64, 1, 8, [.int .i64 0]⟩),
  (3, ⟨.int .i64, 1, 8, [.int .i64 0]⟩),
  (5, ⟨.int .u8, 1, 1, [.int .u8 0]⟩),
  (9, ⟨.string, 1, 16, [.string ⟨#[]⟩]⟩),
  (22, ⟨.slice 2, 1, 24, [.slice .none 0 0]⟩),
  (23, ⟨.slice 22, 1, 24, [.slice .none 0 0]⟩),
  (25, ⟨.struct #[⟨"Objects", 2, 0, false, "", "", 0⟩, ⟨"From", 22, 1, false, "", "", 8⟩, ⟨"To", 22, 2, false, "", "", 32⟩, ⟨"Identity", 22, 3, false, "", "", 56⟩, ⟨"Composites", 23, 4, false, "", "", 80⟩], 5, 104, [.int .i64 0, .slice .none 0 0, .slice .none 0 0, .slice .none 0 0, .slice .none 0 0]⟩),
  (27, ⟨.struct #[⟨"Shape", 25, 0, false, "", "", 0⟩, ⟨"Sizes", 22, 5, false, "", "", 104⟩, ⟨"Actions", 23, 6, false, "", "", 128⟩], 7, 152, [.int .i64 0, .slice .none 0 0, .slice .none 0 0, .slice .none 0 0, .slice .none 0 0, .slice .none 0 0, .slice .none 0 0]⟩),
  (29, ⟨.struct #[⟨"Objects", 2, 0, false, "", "", 0⟩, ⟨"From", 22, 1, false, "", "", 8⟩, ⟨"To", 22, 2, false, "", "", 32⟩, ⟨"Identity", 22, 3, false, "", "", 56⟩, ⟨"Composites", 23, 4, false, "", "", 80⟩], 5, 104, [.int .i64 0, .slice .none 0 0, .slice .none 0 0, .slice .none 0 0, .slice .none 0 0]⟩),
  (31, ⟨.struct #[⟨"Source", 29, 0, false, "", "", 0⟩, ⟨"Target", 29, 5, false, "", "", 104⟩, ⟨"Objects", 22, 10, false, "", "", 208⟩, ⟨"Arrows", 22, 11, false, "", "", 232⟩], 12, 256, [.int .i64 0, .slice .none 0 0, .slice .none 0 0, .slice .none 0 0, .slice .none 0 0, .int .i64 0, .slice .none 0 0, .slice .none 0 0, .slice .none 0 0, .slice .none 0 0, .slice .none 0 0, .slice .none 0 0]⟩),
  (35, ⟨.struct #[⟨"Shape", 29, 0, false, "", "", 0⟩, ⟨"Sizes", 22, 5, false, "", "", 104⟩, ⟨"Actions", 23, 6, false, "", "", 128⟩], 7, 152, [.int .i64 0, .slice .none 0 0, .slice .none 0 0, .slice .none 0 0, .slice .none 0 0, .slice .none 0 0, .slice .none 0 0]⟩),
  (69, ⟨.struct #[⟨"c", 29, 0, false, "", "loop.example/g01083/spec", 0⟩, ⟨"objects", 23, 5, false, "", "loop.example/g01083/spec", 104⟩, ⟨"arrows", 23, 6, false, "", "loop.example/g01083/spec", 128⟩], 7, 152, [.int .i64 0, .slice .none 0 0, .slice .none 0 0, .slice .none 0 0, .slice .none 0 0, .slice .none 0 0, .slice .none 0 0]⟩),
  (76, ⟨.pointer 83, 1, 8, [.pointer .none]⟩),
  (80, ⟨.pointer 29, 1, 8, [.pointer .none]⟩),
  (81, ⟨.map 9 2, 1, 8, [.map .none]⟩),
  (83, ⟨.struct #[⟨"category", 29, 0, false, "", "loop.example/g01083/impl", 0⟩, ⟨"objects", 23, 5, false, "", "loop.example/g01083/impl", 104⟩, ⟨"arrows", 23, 6, false, "", "loop.example/g01083/impl", 128⟩, ⟨"objectAt", 81, 7, false, "", "loop.example/g01083/impl", 152⟩, ⟨"arrowAt", 81, 8, false, "", "loop.example/g01083/impl", 160⟩], 9, 168, [.int .i64 0, .slice .none 0 0, .slice .none 0 0, .slice .none 0 0, .slice .none 0 0, .slice .none 0 0, .slice .none 0 0, .map .none, .map .none]⟩),
  (160, ⟨.slice 5, 1, 24, [.slice .none 0 0]⟩)]
theorem hT : TabOk Try.prog T := ⟨tiok (by kernel_rfl) (by kernel_rfl), tiok (by kernel_rfl) (by kernel_rfl), tiok (by kernel_rfl) (by kernel_rfl), tiok (by kernel_rfl) (by kernel_rfl), tiok (by kernel_rfl) (by kernel_rfl), tiok (by kernel_rfl) (by kernel_rfl), tiok (by kernel_rfl) (by kernel_rfl), tiok (by kernel_rfl) (by kernel_rfl), tiok (by kernel_rfl) (by kernel_rfl), tiok (by kernel_rfl) (by kernel_rfl), tiok (by kernel_rfl) (by kernel_rfl), tiok (by kernel_rfl) (by kernel_rfl), tiok (by kernel_rfl) (by kernel_rfl), tiok (by kernel_rfl) (by kernel_rfl), tiok (by kernel_rfl) (by kernel_rfl), tiok (by kernel_rfl) (by kernel_rfl), tiok (by kernel_rfl) (by kernel_rfl), trivial⟩
theorem hm : Try.prog.follows .mixedOrders = true := by kernel_rfl

end Go.Proofs.Ythafadgnjkmfkaa.WzE
