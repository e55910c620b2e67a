import Derived.Test.YthafadgnjkmfkaaRows
import Derived.KernelRfl
import Derived.JoinedOf
namespace Go.Proofs.Ythafadgnjkmfkaa
theorem own : ownKnob Try.prog.godebug = none := by kernel_rfl
theorem laidOut : laidOutB Try.prog = true := by kernel_rfl
theorem seatRowed : mapsRowed Try.prog = true := by kernel_rfl
theorem seatStops : (Try.prog.stops == []) = true := by kernel_rfl
theorem seatKnobs : (Try.prog.stopKnobs == []) = true := by kernel_rfl
theorem seatHeard : Try.prog.stopsHeard = true := by kernel_rfl
theorem seatEnter : Try.prog.mayEnter = true := by kernel_rfl
theorem seatFinal : Try.prog.liftsFinal = false := by kernel_rfl
end Go.Proofs.Ythafadgnjkmfkaa
