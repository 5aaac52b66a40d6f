/- Facts of the program at the law's function, each reckoned by itself. -/
import Derived.Test.YtmihjeiilgnidaaGreatDoorRows
import Derived.JoinedOf
open Go
namespace Go.Proofs.YtmihjeiilgnidaaGreatDoor.MoldGiven
theorem fact1 : Tryz.prog.inPlace 7 = Rows.moldGivenRow.inPlace := by kernel_rfl
theorem fact2 : Tryz.prog.unfollowed 7 = Rows.moldGivenRow.unfollowed := by kernel_rfl
theorem fact3 : Tryz.prog.recurses 7 = Rows.moldGivenRow.recurses := by kernel_rfl
theorem fact4 : Tryz.prog.varsNamed 7 = Rows.moldGivenRow.named := by kernel_rfl
end Go.Proofs.YtmihjeiilgnidaaGreatDoor.MoldGiven
