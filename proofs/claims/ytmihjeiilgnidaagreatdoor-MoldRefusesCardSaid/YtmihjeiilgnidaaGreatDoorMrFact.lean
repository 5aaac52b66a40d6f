/- Facts of the program at the law's function, each reckoned by itself. -/
import Derived.Test.YtmihjeiilgnidaaGreatDoorRows
import Derived.JoinedOf
open Go
namespace Go.Proofs.YtmihjeiilgnidaaGreatDoor.MoldRefuses
theorem fact1 : Tryz.prog.inPlace 4 = Rows.moldRefusesRow.inPlace := by kernel_rfl
theorem fact2 : Tryz.prog.unfollowed 4 = Rows.moldRefusesRow.unfollowed := by kernel_rfl
theorem fact3 : Tryz.prog.recurses 4 = Rows.moldRefusesRow.recurses := by kernel_rfl
theorem fact4 : Tryz.prog.varsNamed 4 = Rows.moldRefusesRow.named := by kernel_rfl
end Go.Proofs.YtmihjeiilgnidaaGreatDoor.MoldRefuses
