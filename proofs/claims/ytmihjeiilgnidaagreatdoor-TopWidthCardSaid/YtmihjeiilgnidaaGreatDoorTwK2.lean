/- The certificates hold. -/
import Derived.Test.YtmihjeiilgnidaaGreatDoorTwT
import Derived.KernelRfl
open Go.Ab
set_option maxRecDepth 100000
namespace Go.Proofs.YtmihjeiilgnidaaGreatDoor.TopWidth
theorem g13_2 : fitAll tab0 13 [c13_2, c13_3] = true := by kernel_rfl
theorem g36_0 : fitAll tab0 36 [c36_0, c36_1] = true := by kernel_rfl
end Go.Proofs.YtmihjeiilgnidaaGreatDoor.TopWidth
