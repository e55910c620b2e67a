/- Walks. Printed by wip/gen. -/
import Derived.Test.YtiikkfdehbcfaaaGxEM0
import Derived.Test.YtiikkfdehbcfaaaGxEO0
import Derived.Test.YtiikkfdehbcfaaaGxvBW3
import Derived.Test.YtiikkfdehbcfaaaGxzSW1
import Derived.KernelRfl
namespace Go.Proofs.Ytiikkfdehbcfaaa.WzJ
open Go.Gx Go.Proofs.Ytiikkfdehbcfaaa.WvB Go.Proofs.Ytiikkfdehbcfaaa.WyN Go.Proofs.Ytiikkfdehbcfaaa.WzS

theorem eXSchema_r : EncR eXSchema := (eA_r (eC_r eI_r _) (eA_r (eC_r (eS_r eI_ok) _) (eA_r (eC_r (eS_r eI_ok) _) (eA_r (eC_r (eS_r eXPath_ok) _) (eC_r (eS_r eXPath_ok) _)))))
def T : Tab := [(2, ⟨.int .i64, 1, 8, [.int .i64 0]⟩),
  (3, ⟨.int .i64, 1, 8, [.int .i64 0]⟩),
  (22, ⟨.slice 2, 1, 24, [.slice .none 0 0]⟩),
  (43, ⟨.slice 224, 1, 24, [.slice .none 0 0]⟩),
  (45, ⟨.struct #[⟨"Nodes", 2, 0, false, "", "", 0⟩, ⟨"From", 22, 1, false, "", "", 8⟩, ⟨"To", 22, 2, false, "", "", 32⟩, ⟨"Left", 43, 3, false, "", "", 56⟩, ⟨"Right", 43, 4, false, "", "", 80⟩], 5, 104, [.int .i64 0, .slice .none 0 0, .slice .none 0 0, .slice .none 0 0, .slice .none 0 0]⟩),
  (52, ⟨.slice 225, 1, 24, [.slice .none 0 0]⟩),
  (54, ⟨.struct #[⟨"Nodes", 2, 0, false, "", "", 0⟩, ⟨"From", 22, 1, false, "", "", 8⟩, ⟨"To", 22, 2, false, "", "", 32⟩, ⟨"Left", 52, 3, false, "", "", 56⟩, ⟨"Right", 52, 4, false, "", "", 80⟩], 5, 104, [.int .i64 0, .slice .none 0 0, .slice .none 0 0, .slice .none 0 0, .slice .none 0 0]⟩),
  (224, ⟨.struct #[⟨"Start", 2, 0, false, "", "", 0⟩, ⟨"Edges", 22, 1, false, "", "", 8⟩], 2, 32, [.int .i64 0, .slice .none 0 0]⟩),
  (225, ⟨.struct #[⟨"Start", 2, 0, false, "", "", 0⟩, ⟨"Edges", 22, 1, false, "", "", 8⟩], 2, 32, [.int .i64 0, .slice .none 0 0]⟩)]
theorem hT : TabOk Try.prog T := ⟨tiok (by kernel_rfl) (by kernel_rfl), tiok (by kernel_rfl) (by kernel_rfl), tiok (by kernel_rfl) (by kernel_rfl), tiok (by kernel_rfl) (by kernel_rfl), tiok (by kernel_rfl) (by kernel_rfl), tiok (by kernel_rfl) (by kernel_rfl), tiok (by kernel_rfl) (by kernel_rfl), tiok (by kernel_rfl) (by kernel_rfl), tiok (by kernel_rfl) (by kernel_rfl), trivial⟩
theorem hm : Try.prog.follows .mixedOrders = true := by kernel_rfl

end Go.Proofs.Ytiikkfdehbcfaaa.WzJ
