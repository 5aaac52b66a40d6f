/- The certificates hold. -/
import Derived.Test.YtmihjeiilgnidaaGreatDoorTwT
import Derived.KernelRfl
open Go.Ab
set_option maxRecDepth 100000
namespace Go.Proofs.YtmihjeiilgnidaaGreatDoor.TopWidth
theorem g13_8 : fitAll tab0 13 [c13_8, c13_9] = true := by kernel_rfl
theorem k36_6 : fitsR c36_6 (run tab0 300 36 c36_6.args c36_6.start) = true := by kernel_rfl
end Go.Proofs.YtmihjeiilgnidaaGreatDoor.TopWidth
