/- The certificates hold. -/
import Derived.Test.YtmihjeiilgnidaaGreatDoorTbT
import Derived.KernelRfl
open Go.Ab
set_option maxRecDepth 100000
namespace Go.Proofs.YtmihjeiilgnidaaGreatDoor.TopBig
theorem k13_6 : fitsR c13_6 (run tab0 300 13 c13_6.args c13_6.start) = true := by kernel_rfl
end Go.Proofs.YtmihjeiilgnidaaGreatDoor.TopBig
