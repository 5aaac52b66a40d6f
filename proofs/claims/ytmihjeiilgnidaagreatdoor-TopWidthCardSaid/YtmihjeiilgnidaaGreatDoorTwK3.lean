/- The certificates hold. -/
import Derived.Test.YtmihjeiilgnidaaGreatDoorTwT
import Derived.KernelRfl
open Go.Ab
set_option maxRecDepth 100000
namespace Go.Proofs.YtmihjeiilgnidaaGreatDoor.TopWidth
theorem g13_4 : fitAll tab0 13 [c13_4, c13_5] = true := by kernel_rfl
theorem g36_2 : fitAll tab0 36 [c36_2, c36_3] = true := by kernel_rfl
end Go.Proofs.YtmihjeiilgnidaaGreatDoor.TopWidth
