/- Facts of the program at the law's function, each reckoned by itself. -/
import Derived.Test.YtmihjeiilgnidaaGreatDoorRows
import Derived.JoinedOf
open Go
namespace Go.Proofs.YtmihjeiilgnidaaGreatDoor.TopBig
theorem fact1 : Tryz.prog.inPlace 3 = Rows.topBigRow.inPlace := by kernel_rfl
theorem fact2 : Tryz.prog.unfollowed 3 = Rows.topBigRow.unfollowed := by kernel_rfl
theorem fact3 : Tryz.prog.recurses 3 = Rows.topBigRow.recurses := by kernel_rfl
theorem fact4 : Tryz.prog.varsNamed 3 = Rows.topBigRow.named := by kernel_rfl
end Go.Proofs.YtmihjeiilgnidaaGreatDoor.TopBig
