/- Walks. Printed by wip/gen. -/
import Derived.Test.YtknmijgiefkijaaGxEM0
import Derived.Test.YtknmijgiefkijaaGxEO0
import Derived.Test.YtknmijgiefkijaaGxyNW
import Derived.Test.YtknmijgiefkijaaGxvSW
import Derived.Test.YtknmijgiefkijaaGxvBW3
import Derived.KernelRfl
namespace Go.Proofs.Ytknmijgiefkijaa.WzL
open Go.Gx Go.Proofs.Ytknmijgiefkijaa.WvB Go.Proofs.Ytknmijgiefkijaa.WyN Go.Proofs.Ytknmijgiefkijaa.WvS

theorem eXCategory_r : EncR eXCategory := (eA_r (eC_r eI_r _) (eA_r (eC_r (eS_r eI_ok) _) (eA_r (eC_r (eS_r eI_ok) _) (eA_r (eC_r (eS_r eI_ok) _) (eC_r (eS_r (eS_ok eI_ok)) _)))))
theorem eXFunctor_r : EncR eXFunctor := (eA_r (eC_r eXCategory_r _) (eA_r (eC_r eXCategory_r _) (eA_r (eC_r (eS_r eI_ok) _) (eC_r (eS_r eI_ok) _))))
def T : Tab := [(2, ⟨.int .i64, 1, 8, [.int .i64 0]⟩),
  (3, ⟨.int .i64, 1, 8, [.int .i64 0]⟩),
  (22, ⟨.slice 2, 1, 24, [.slice .none 0 0]⟩),
  (23, ⟨.slice 22, 1, 24, [.slice .none 0 0]⟩),
  (29, ⟨.struct #[⟨"Objects", 2, 0, false, "", "", 0⟩, ⟨"From", 22, 1, false, "", "", 8⟩, ⟨"To", 22, 2, false, "", "", 32⟩, ⟨"Identity", 22, 3, false, "", "", 56⟩, ⟨"Composites", 23, 4, false, "", "", 80⟩], 5, 104, [.int .i64 0, .slice .none 0 0, .slice .none 0 0, .slice .none 0 0, .slice .none 0 0]⟩),
  (82, ⟨.pointer 87, 1, 8, [.pointer .none]⟩),
  (85, ⟨.slice 89, 1, 24, [.slice .none 0 0]⟩),
  (87, ⟨.struct #[⟨"category", 29, 0, false, "", "loop.example/g01083/impl", 0⟩, ⟨"objects", 22, 5, false, "", "loop.example/g01083/impl", 104⟩, ⟨"arrows", 85, 6, false, "", "loop.example/g01083/impl", 128⟩], 7, 152, [.int .i64 0, .slice .none 0 0, .slice .none 0 0, .slice .none 0 0, .slice .none 0 0, .slice .none 0 0, .slice .none 0 0]⟩),
  (89, ⟨.array 3 2, 3, 24, [.int .i64 0, .int .i64 0, .int .i64 0]⟩),
  (92, ⟨.pointer 29, 1, 8, [.pointer .none]⟩)]
theorem hT : TabOk Try.prog T := ⟨tiok (by kernel_rfl) (by kernel_rfl), tiok (by kernel_rfl) (by kernel_rfl), tiok (by kernel_rfl) (by kernel_rfl), tiok (by kernel_rfl) (by kernel_rfl), tiok (by kernel_rfl) (by kernel_rfl), tiok (by kernel_rfl) (by kernel_rfl), tiok (by kernel_rfl) (by kernel_rfl), tiok (by kernel_rfl) (by kernel_rfl), tiok (by kernel_rfl) (by kernel_rfl), tiok (by kernel_rfl) (by kernel_rfl), trivial⟩
theorem hm : Try.prog.follows .mixedOrders = true := by kernel_rfl

end Go.Proofs.Ytknmijgiefkijaa.WzL
