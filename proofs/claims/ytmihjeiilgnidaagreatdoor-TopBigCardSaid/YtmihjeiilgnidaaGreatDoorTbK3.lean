/- The certificates hold. -/
import Derived.Test.YtmihjeiilgnidaaGreatDoorTbT
import Derived.KernelRfl
open Go.Ab
set_option maxRecDepth 100000
namespace Go.Proofs.YtmihjeiilgnidaaGreatDoor.TopBig
theorem k11_2 : fitsR c11_2 (run tab0 300 11 c11_2.args c11_2.start) = true := by kernel_rfl
end Go.Proofs.YtmihjeiilgnidaaGreatDoor.TopBig
