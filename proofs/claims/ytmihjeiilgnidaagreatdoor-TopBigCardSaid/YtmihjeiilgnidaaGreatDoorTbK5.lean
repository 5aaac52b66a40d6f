/- The certificates hold. -/
import Derived.Test.YtmihjeiilgnidaaGreatDoorTbT
import Derived.KernelRfl
open Go.Ab
set_option maxRecDepth 100000
namespace Go.Proofs.YtmihjeiilgnidaaGreatDoor.TopBig
theorem k11_4 : fitsR c11_4 (run tab0 300 11 c11_4.args c11_4.start) = true := by kernel_rfl
end Go.Proofs.YtmihjeiilgnidaaGreatDoor.TopBig
