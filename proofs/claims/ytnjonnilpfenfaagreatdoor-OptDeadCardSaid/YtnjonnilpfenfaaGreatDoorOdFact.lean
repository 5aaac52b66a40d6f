/- Facts of the program at the law's function, each reckoned by itself. -/
import Derived.Test.YtnjonnilpfenfaaGreatDoorRows
import Derived.JoinedOf
open Go
namespace Go.Proofs.YtnjonnilpfenfaaGreatDoor.OptDead
theorem fact1 : Tryz.prog.inPlace 6 = Rows.optDeadRow.inPlace := by kernel_rfl
theorem fact2 : Tryz.prog.unfollowed 6 = Rows.optDeadRow.unfollowed := by kernel_rfl
theorem fact3 : Tryz.prog.recurses 6 = Rows.optDeadRow.recurses := by kernel_rfl
theorem fact4 : Tryz.prog.varsNamed 6 = Rows.optDeadRow.named := by kernel_rfl
end Go.Proofs.YtnjonnilpfenfaaGreatDoor.OptDead
