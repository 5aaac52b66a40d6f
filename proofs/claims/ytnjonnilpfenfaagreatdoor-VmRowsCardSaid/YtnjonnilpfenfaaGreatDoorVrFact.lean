/- Facts of the program at the law's function, each reckoned by itself. -/
import Derived.Test.YtnjonnilpfenfaaGreatDoorRows
import Derived.JoinedOf
open Go
namespace Go.Proofs.YtnjonnilpfenfaaGreatDoor.VmRows
theorem fact1 : Tryz.prog.inPlace 3 = Rows.vmRowsRow.inPlace := by kernel_rfl
theorem fact2 : Tryz.prog.unfollowed 3 = Rows.vmRowsRow.unfollowed := by kernel_rfl
theorem fact3 : Tryz.prog.recurses 3 = Rows.vmRowsRow.recurses := by kernel_rfl
theorem fact4 : Tryz.prog.varsNamed 3 = Rows.vmRowsRow.named := by kernel_rfl
end Go.Proofs.YtnjonnilpfenfaaGreatDoor.VmRows
