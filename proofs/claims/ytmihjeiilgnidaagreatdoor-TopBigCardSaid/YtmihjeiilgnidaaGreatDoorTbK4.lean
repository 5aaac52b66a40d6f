/- The certificates hold. -/
import Derived.Test.YtmihjeiilgnidaaGreatDoorTbT
import Derived.KernelRfl
open Go.Ab
set_option maxRecDepth 100000
namespace Go.Proofs.YtmihjeiilgnidaaGreatDoor.TopBig
theorem k11_3 : fitsR c11_3 (run tab0 300 11 c11_3.args c11_3.start) = true := by kernel_rfl
end Go.Proofs.YtmihjeiilgnidaaGreatDoor.TopBig
