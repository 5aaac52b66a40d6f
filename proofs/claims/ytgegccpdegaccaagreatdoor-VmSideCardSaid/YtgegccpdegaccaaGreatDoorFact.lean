/- Facts of the program that every row's form asks, each reckoned by itself. -/
import Derived.Test.YtgegccpdegaccaaGreatDoorRows
import Derived.JoinedOf
open Go
namespace Go.Proofs.YtgegccpdegaccaaGreatDoor
theorem fact_laidOut : laidOutB Tryz.prog = true := by kernel_rfl
theorem fact_mapsRowed : mapsRowed Tryz.prog = true := by kernel_rfl
theorem fact_mayEnter : Tryz.prog.mayEnter = true := by kernel_rfl
theorem fact_stopsHeard : Tryz.prog.stopsHeard = true := by kernel_rfl
theorem fact_lifts : Tryz.prog.liftsFinal = Rows.vmSideRow.lifted := by kernel_rfl
theorem fact_make : Tryz.prog.make = some Rows.vmSideRow.make := by kernel_rfl
end Go.Proofs.YtgegccpdegaccaaGreatDoor
