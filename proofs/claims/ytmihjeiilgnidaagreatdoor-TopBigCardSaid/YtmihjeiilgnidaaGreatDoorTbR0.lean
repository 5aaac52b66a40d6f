/- Runs of the law. -/
import Derived.Test.YtmihjeiilgnidaaGreatDoorTbT
import Derived.Test.YtmihjeiilgnidaaGreatDoorLw
import Derived.KernelRfl
open Go.Ab
set_option maxRecDepth 100000
namespace Go.Proofs.YtmihjeiilgnidaaGreatDoor.TopBig
theorem run_0_f : isT (run tab1 300 3 [.cls 6 0, .bool false] H0) = true := by kernel_rfl
theorem run_1_f : isT (run tab1 300 3 [.cls 6 1, .bool false] H0) = true := by kernel_rfl
theorem run_2_f : isT (run tab1 300 3 [.cls 6 2, .bool false] H0) = true := by kernel_rfl
theorem run_3_f : isT (run tab1 300 3 [.cls 6 3, .bool false] H0) = true := by kernel_rfl
theorem run_4_f : isT (run tab1 300 3 [.cls 6 4, .bool false] H0) = true := by kernel_rfl
theorem run_5_f : isT (run tab1 300 3 [.cls 6 5, .bool false] H0) = true := by kernel_rfl
end Go.Proofs.YtmihjeiilgnidaaGreatDoor.TopBig
