/- The certificates hold. -/
import Derived.Test.YtmihjeiilgnidaaGreatDoorTwT
import Derived.KernelRfl
open Go.Ab
set_option maxRecDepth 100000
namespace Go.Proofs.YtmihjeiilgnidaaGreatDoor.TopWidth
theorem g13_0 : fitAll tab0 13 [c13_0, c13_1] = true := by kernel_rfl
theorem k34_2 : fitsR c34_2 (run tab0 300 34 c34_2.args c34_2.start) = true := by kernel_rfl
end Go.Proofs.YtmihjeiilgnidaaGreatDoor.TopWidth
