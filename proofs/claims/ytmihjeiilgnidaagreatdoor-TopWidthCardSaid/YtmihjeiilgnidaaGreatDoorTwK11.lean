/- The certificates hold. -/
import Derived.Test.YtmihjeiilgnidaaGreatDoorTwT
import Derived.KernelRfl
open Go.Ab
set_option maxRecDepth 100000
namespace Go.Proofs.YtmihjeiilgnidaaGreatDoor.TopWidth
theorem k32_4 : fitsR c32_4 (run tab0 300 32 c32_4.args c32_4.start) = true := by kernel_rfl
end Go.Proofs.YtmihjeiilgnidaaGreatDoor.TopWidth
