/- Facts of the program at the law's function, each reckoned by itself. -/
import Derived.Test.YtgegccpdegaccaaGreatDoorRows
import Derived.JoinedOf
open Go
namespace Go.Proofs.YtgegccpdegaccaaGreatDoor.VmSide
theorem fact1 : Tryz.prog.inPlace 4 = Rows.vmSideRow.inPlace := by kernel_rfl
theorem fact2 : Tryz.prog.unfollowed 4 = Rows.vmSideRow.unfollowed := by kernel_rfl
theorem fact3 : Tryz.prog.recurses 4 = Rows.vmSideRow.recurses := by kernel_rfl
theorem fact4 : Tryz.prog.varsNamed 4 = Rows.vmSideRow.named := by kernel_rfl
end Go.Proofs.YtgegccpdegaccaaGreatDoor.VmSide
