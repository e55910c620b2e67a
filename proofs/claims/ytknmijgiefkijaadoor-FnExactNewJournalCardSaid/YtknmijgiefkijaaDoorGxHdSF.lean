/- Facts of the whole program, once for all laws. -/
import Derived.Test.YtknmijgiefkijaaDoorRows
import Derived.KernelRfl
import Derived.JoinedOf
namespace Go.Proofs.YtknmijgiefkijaaDoor
theorem own : ownKnob Tryd.prog.godebug = none := by kernel_rfl
theorem laidOut : laidOutB Tryd.prog = true := by kernel_rfl
theorem seatRowed : mapsRowed Tryd.prog = true := by kernel_rfl
theorem seatStops : (Tryd.prog.stops == []) = true := by kernel_rfl
theorem seatKnobs : (Tryd.prog.stopKnobs == []) = true := by kernel_rfl
theorem seatHeard : Tryd.prog.stopsHeard = true := by kernel_rfl
theorem seatEnter : Tryd.prog.mayEnter = true := by kernel_rfl
theorem seatFinal : Tryd.prog.liftsFinal = false := by kernel_rfl
end Go.Proofs.YtknmijgiefkijaaDoor
