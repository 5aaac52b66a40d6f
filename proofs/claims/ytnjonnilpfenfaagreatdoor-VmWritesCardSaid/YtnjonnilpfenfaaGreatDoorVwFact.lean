/- Facts of the program at the law's function, each reckoned by itself. -/
import Derived.Test.YtnjonnilpfenfaaGreatDoorRows
import Derived.JoinedOf
open Go
namespace Go.Proofs.YtnjonnilpfenfaaGreatDoor.VmWrites
theorem fact1 : Tryz.prog.inPlace 4 = Rows.vmWritesRow.inPlace := by kernel_rfl
theorem fact2 : Tryz.prog.unfollowed 4 = Rows.vmWritesRow.unfollowed := by kernel_rfl
theorem fact3 : Tryz.prog.recurses 4 = Rows.vmWritesRow.recurses := by kernel_rfl
theorem fact4 : Tryz.prog.varsNamed 4 = Rows.vmWritesRow.named := by kernel_rfl
end Go.Proofs.YtnjonnilpfenfaaGreatDoor.VmWrites
