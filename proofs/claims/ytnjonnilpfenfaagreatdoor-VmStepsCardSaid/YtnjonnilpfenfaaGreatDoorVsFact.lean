/- Facts of the program at the law's function, each reckoned by itself. -/
import Derived.Test.YtnjonnilpfenfaaGreatDoorRows
import Derived.JoinedOf
open Go
namespace Go.Proofs.YtnjonnilpfenfaaGreatDoor.VmSteps
theorem fact1 : Tryz.prog.inPlace 5 = Rows.vmStepsRow.inPlace := by kernel_rfl
theorem fact2 : Tryz.prog.unfollowed 5 = Rows.vmStepsRow.unfollowed := by kernel_rfl
theorem fact3 : Tryz.prog.recurses 5 = Rows.vmStepsRow.recurses := by kernel_rfl
theorem fact4 : Tryz.prog.varsNamed 5 = Rows.vmStepsRow.named := by kernel_rfl
end Go.Proofs.YtnjonnilpfenfaaGreatDoor.VmSteps
