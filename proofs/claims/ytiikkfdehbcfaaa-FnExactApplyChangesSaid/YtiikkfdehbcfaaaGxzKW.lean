/- Walks. Printed by wip/gen. -/
import Derived.Test.YtiikkfdehbcfaaaGxEM0
import Derived.Test.YtiikkfdehbcfaaaGxEO0
import Derived.Test.YtiikkfdehbcfaaaGxzJW1
import Derived.Test.YtiikkfdehbcfaaaGxzSW1
import Derived.KernelRfl
namespace Go.Proofs.Ytiikkfdehbcfaaa.WzK
open Go.Gx Go.Proofs.Ytiikkfdehbcfaaa.WvB Go.Proofs.Ytiikkfdehbcfaaa.WyN Go.Proofs.Ytiikkfdehbcfaaa.WzS Go.Proofs.Ytiikkfdehbcfaaa.WzJ

theorem eXSchema_r : EncR eXSchema := (eA_r (eC_r eI_r _) (eA_r (eC_r (eS_r eI_ok) _) (eA_r (eC_r (eS_r eI_ok) _) (eA_r (eC_r (eS_r eXPath_ok) _) (eC_r (eS_r eXPath_ok) _)))))
def T : Tab := [(2, ⟨.int .i64, 1, 8, [.int .i64 0]⟩),
  (3, ⟨.int .i64, 1, 8, [.int .i64 0]⟩),
  (22, ⟨.slice 2, 1, 24, [.slice .none 0 0]⟩),
  (23, ⟨.slice 22, 1, 24, [.slice .none 0 0]⟩),
  (43, ⟨.slice 224, 1, 24, [.slice .none 0 0]⟩),
  (45, ⟨.struct #[⟨"Nodes", 2, 0, false, "", "", 0⟩, ⟨"From", 22, 1, false, "", "", 8⟩, ⟨"To", 22, 2, false, "", "", 32⟩, ⟨"Left", 43, 3, false, "", "", 56⟩, ⟨"Right", 43, 4, false, "", "", 80⟩], 5, 104, [.int .i64 0, .slice .none 0 0, .slice .none 0 0, .slice .none 0 0, .slice .none 0 0]⟩),
  (46, ⟨.slice 134, 1, 24, [.slice .none 0 0]⟩),
  (52, ⟨.slice 225, 1, 24, [.slice .none 0 0]⟩),
  (54, ⟨.struct #[⟨"Nodes", 2, 0, false, "", "", 0⟩, ⟨"From", 22, 1, false, "", "", 8⟩, ⟨"To", 22, 2, false, "", "", 32⟩, ⟨"Left", 52, 3, false, "", "", 56⟩, ⟨"Right", 52, 4, false, "", "", 80⟩], 5, 104, [.int .i64 0, .slice .none 0 0, .slice .none 0 0, .slice .none 0 0, .slice .none 0 0]⟩),
  (58, ⟨.slice 132, 1, 24, [.slice .none 0 0]⟩),
  (126, ⟨.struct #[⟨"sizes", 22, 0, false, "", "loop.example/g01083/spec", 0⟩, ⟨"maps", 23, 1, false, "", "loop.example/g01083/spec", 24⟩], 2, 48, [.slice .none 0 0, .slice .none 0 0]⟩),
  (132, ⟨.struct #[⟨"Kind", 2, 0, false, "", "", 0⟩, ⟨"First", 2, 1, false, "", "", 8⟩, ⟨"Second", 2, 2, false, "", "", 16⟩, ⟨"Third", 2, 3, false, "", "", 24⟩], 4, 32, [.int .i64 0, .int .i64 0, .int .i64 0, .int .i64 0]⟩),
  (134, ⟨.struct #[⟨"Kind", 2, 0, false, "", "", 0⟩, ⟨"First", 2, 1, false, "", "", 8⟩, ⟨"Second", 2, 2, false, "", "", 16⟩, ⟨"Third", 2, 3, false, "", "", 24⟩], 4, 32, [.int .i64 0, .int .i64 0, .int .i64 0, .int .i64 0]⟩),
  (137, ⟨.struct #[⟨"sizes", 22, 0, false, "", "loop.example/g01083/impl", 0⟩, ⟨"maps", 23, 1, false, "", "loop.example/g01083/impl", 24⟩], 2, 48, [.slice .none 0 0, .slice .none 0 0]⟩),
  (224, ⟨.struct #[⟨"Start", 2, 0, false, "", "", 0⟩, ⟨"Edges", 22, 1, false, "", "", 8⟩], 2, 32, [.int .i64 0, .slice .none 0 0]⟩),
  (225, ⟨.struct #[⟨"Start", 2, 0, false, "", "", 0⟩, ⟨"Edges", 22, 1, false, "", "", 8⟩], 2, 32, [.int .i64 0, .slice .none 0 0]⟩)]
theorem hT : TabOk Try.prog T := ⟨tiok (by kernel_rfl) (by kernel_rfl), tiok (by kernel_rfl) (by kernel_rfl), tiok (by kernel_rfl) (by kernel_rfl), tiok (by kernel_rfl) (by kernel_rfl), tiok (by kernel_rfl) (by kernel_rfl), tiok (by kernel_rfl) (by kernel_rfl), tiok (by kernel_rfl) (by kernel_rfl), tiok (by kernel_rfl) (by kernel_rfl), tiok (by kernel_rfl) (by kernel_rfl), tiok (by kernel_rfl) (by kernel_rfl), tiok (by kernel_rfl) (by kernel_rfl), tiok (by kernel_rfl) (by kernel_rfl), tiok (by kernel_rfl) (by kernel_rfl), tiok (by kernel_rfl) (by kernel_rfl), tiok (by kernel_rfl) (by kernel_rfl), tiok (by kernel_rfl) (by kernel_rfl), trivial⟩
theorem hm : Try.prog.follows .mixedOrders = true := by kernel_rfl

end Go.Proofs.Ytiikkfdehbcfaaa.WzK
