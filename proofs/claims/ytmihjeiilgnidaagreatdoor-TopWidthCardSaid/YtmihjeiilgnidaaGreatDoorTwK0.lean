/- The certificates hold. -/
import Derived.Test.YtmihjeiilgnidaaGreatDoorTwT
import Derived.KernelRfl
open Go.Ab
set_option maxRecDepth 100000
namespace Go.Proofs.YtmihjeiilgnidaaGreatDoor.TopWidth
theorem k9_0 : fitsR c9_0 (run tab0 300 9 c9_0.args c9_0.start) = true := by kernel_rfl
theorem g34_0 : fitAll tab0 34 [c34_0, c34_1] = true := by kernel_rfl
end Go.Proofs.YtmihjeiilgnidaaGreatDoor.TopWidth
