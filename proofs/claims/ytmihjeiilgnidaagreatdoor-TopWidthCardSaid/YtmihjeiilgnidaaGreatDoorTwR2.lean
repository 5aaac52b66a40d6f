/- Runs of the law. -/
import Derived.Test.YtmihjeiilgnidaaGreatDoorTwT
import Derived.Test.YtmihjeiilgnidaaGreatDoorLw
import Derived.KernelRfl
open Go.Ab
set_option maxRecDepth 100000
namespace Go.Proofs.YtmihjeiilgnidaaGreatDoor.TopWidth
theorem run_1_8 : isT (run tab1 300 8 [.cls 12 1, .cls 16 8] H0) = true := by kernel_rfl
theorem run_1_9 : isT (run tab1 300 8 [.cls 12 1, .cls 16 9] H0) = true := by kernel_rfl
theorem run_1_10 : isT (run tab1 300 8 [.cls 12 1, .cls 16 10] H0) = true := by kernel_rfl
theorem run_1_11 : isT (run tab1 300 8 [.cls 12 1, .cls 16 11] H0) = true := by kernel_rfl
theorem run_1_12 : isT (run tab1 300 8 [.cls 12 1, .cls 16 12] H0) = true := by kernel_rfl
theorem run_1_13 : isT (run tab1 300 8 [.cls 12 1, .cls 16 13] H0) = true := by kernel_rfl
theorem run_1_14 : isT (run tab1 300 8 [.cls 12 1, .cls 16 14] H0) = true := by kernel_rfl
theorem run_1_15 : isT (run tab1 300 8 [.cls 12 1, .cls 16 15] H0) = true := by kernel_rfl
theorem run_2_0 : isT (run tab1 300 8 [.cls 12 2, .cls 16 0] H0) = true := by kernel_rfl
theorem run_2_1 : isT (run tab1 300 8 [.cls 12 2, .cls 16 1] H0) = true := by kernel_rfl
theorem run_2_2 : isT (run tab1 300 8 [.cls 12 2, .cls 16 2] H0) = true := by kernel_rfl
theorem run_2_3 : isT (run tab1 300 8 [.cls 12 2, .cls 16 3] H0) = true := by kernel_rfl
end Go.Proofs.YtmihjeiilgnidaaGreatDoor.TopWidth
