/- The certificates hold. -/
import Derived.Test.YtmihjeiilgnidaaGreatDoorTbT
import Derived.KernelRfl
open Go.Ab
set_option maxRecDepth 100000
namespace Go.Proofs.YtmihjeiilgnidaaGreatDoor.TopBig
theorem k9_0 : fitsR c9_0 (run tab0 300 9 c9_0.args c9_0.start) = true := by kernel_rfl
end Go.Proofs.YtmihjeiilgnidaaGreatDoor.TopBig
