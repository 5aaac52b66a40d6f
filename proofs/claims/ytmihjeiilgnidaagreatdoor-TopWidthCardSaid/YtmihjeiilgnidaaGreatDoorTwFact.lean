/- Facts of the program at the law's function, each reckoned by itself. -/
import Derived.Test.YtmihjeiilgnidaaGreatDoorRows
import Derived.JoinedOf
open Go
namespace Go.Proofs.YtmihjeiilgnidaaGreatDoor.TopWidth
theorem fact1 : Tryz.prog.inPlace 8 = Rows.topWidthRow.inPlace := by kernel_rfl
theorem fact2 : Tryz.prog.unfollowed 8 = Rows.topWidthRow.unfollowed := by kernel_rfl
theorem fact3 : Tryz.prog.recurses 8 = Rows.topWidthRow.recurses := by kernel_rfl
theorem fact4 : Tryz.prog.varsNamed 8 = Rows.topWidthRow.named := by kernel_rfl
end Go.Proofs.YtmihjeiilgnidaaGreatDoor.TopWidth
