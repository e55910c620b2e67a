/- Walks. Printed by wip/gen. -/
import Derived.Test.YtknmijgiefkijaaDoorGxEM0
import Derived.Test.YtknmijgiefkijaaDoorGxEO0
import Derived.Test.YtknmijgiefkijaaDoorRows
import Derived.KernelRfl
namespace Go.Proofs.YtknmijgiefkijaaDoor.WdA
open Go.Gx

theorem eXSchema_r : EncR eXSchema := (eA_r (eC_r eI_r _) (eA_r (eC_r (eS_r eI_ok) _) (eA_r (eC_r (eS_r eI_ok) _) (eA_r (eC_r (eS_r eXPath_ok) _) (eC_r (eS_r eXPath_ok) _)))))
def T : Tab := [(2, ⟨.int .i64, 1, 8, [.int .i64 0]⟩),
  (3, ⟨.int .i64, 1, 8, [.int .i64 0]⟩),
  (22, ⟨.slice 2, 1, 24, [.slice .none 0 0]⟩),
  (23, ⟨.slice 48, 1, 24, [.slice .none 0 0]⟩),
  (25, ⟨.struct #[⟨"Nodes", 2, 0, false, "", "", 0⟩, ⟨"From", 22, 1, false, "", "", 8⟩, ⟨"To", 22, 2, false, "", "", 32⟩, ⟨"Left", 23, 3, false, "", "", 56⟩, ⟨"Right", 23, 4, false, "", "", 80⟩], 5, 104, [.int .i64 0, .slice .none 0 0, .slice .none 0 0, .slice .none 0 0, .slice .none 0 0]⟩),
  (29, ⟨.slice 51, 1, 24, [.slice .none 0 0]⟩),
  (31, ⟨.struct #[⟨"Nodes", 2, 0, false, "", "", 0⟩, ⟨"From", 22, 1, false, "", "", 8⟩, ⟨"To", 22, 2, false, "", "", 32⟩, ⟨"Left", 29, 3, false, "", "", 56⟩, ⟨"Right", 29, 4, false, "", "", 80⟩], 5, 104, [.int .i64 0, .slice .none 0 0, .slice .none 0 0, .slice .none 0 0, .slice .none 0 0]⟩),
  (48, ⟨.struct #[⟨"Start", 2, 0, false, "", "", 0⟩, ⟨"Edges", 22, 1, false, "", "", 8⟩], 2, 32, [.int .i64 0, .slice .none 0 0]⟩),
  (51, ⟨.struct #[⟨"Start", 2, 0, false, "", "", 0⟩, ⟨"Edges", 22, 1, false, "", "", 8⟩], 2, 32, [.int .i64 0, .slice .none 0 0]⟩)]
theorem hT : TabOk Tryd.prog T := ⟨tiok (by kernel_rfl) (by kernel_rfl), tiok (by kernel_rfl) (by kernel_rfl), tiok (by kernel_rfl) (by kernel_rfl), tiok (by kernel_rfl) (by kernel_rfl), tiok (by kernel_rfl) (by kernel_rfl), tiok (by kernel_rfl) (by kernel_rfl), tiok (by kernel_rfl) (by kernel_rfl), tiok (by kernel_rfl) (by kernel_rfl), tiok (by kernel_rfl) (by kernel_rfl), trivial⟩
theorem hm : Tryd.prog.follows .mixedOrders = true := by kernel_rfl

end Go.Proofs.YtknmijgiefkijaaDoor.WdA
