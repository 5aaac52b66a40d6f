/- Facts of the program at the law's function, each reckoned by itself. -/
import Derived.Test.YtmihjeiilgnidaaGreatDoorRows
import Derived.JoinedOf
open Go
namespace Go.Proofs.YtmihjeiilgnidaaGreatDoor.MoldPaths
theorem fact1 : Tryz.prog.inPlace 6 = Rows.moldPathsRow.inPlace := by kernel_rfl
theorem fact2 : Tryz.prog.unfollowed 6 = Rows.moldPathsRow.unfollowed := by kernel_rfl
theorem fact3 : Tryz.prog.recurses 6 = Rows.moldPathsRow.recurses := by kernel_rfl
theorem fact4 : Tryz.prog.varsNamed 6 = Rows.moldPathsRow.named := by kernel_rfl
end Go.Proofs.YtmihjeiilgnidaaGreatDoor.MoldPaths
