/- Facts of the program at the law's function, each reckoned by itself. -/
import Derived.Test.YtmihjeiilgnidaaGreatDoorRows
import Derived.JoinedOf
open Go
namespace Go.Proofs.YtmihjeiilgnidaaGreatDoor.TopFaults
theorem fact1 : Tryz.prog.inPlace 5 = Rows.topFaultsRow.inPlace := by kernel_rfl
theorem fact2 : Tryz.prog.unfollowed 5 = Rows.topFaultsRow.unfollowed := by kernel_rfl
theorem fact3 : Tryz.prog.recurses 5 = Rows.topFaultsRow.recurses := by kernel_rfl
theorem fact4 : Tryz.prog.varsNamed 5 = Rows.topFaultsRow.named := by kernel_rfl
end Go.Proofs.YtmihjeiilgnidaaGreatDoor.TopFaults
