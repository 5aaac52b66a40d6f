/- Runs of the law. -/
import Derived.Test.YtmihjeiilgnidaaGreatDoorTwT
import Derived.Test.YtmihjeiilgnidaaGreatDoorLw
import Derived.KernelRfl
open Go.Ab
set_option maxRecDepth 100000
namespace Go.Proofs.YtmihjeiilgnidaaGreatDoor.TopWidth
theorem run_3_12 : isT (run tab1 300 8 [.cls 12 3, .cls 16 12] H0) = true := by kernel_rfl
theorem run_3_13 : isT (run tab1 300 8 [.cls 12 3, .cls 16 13] H0) = true := by kernel_rfl
theorem run_3_14 : isT (run tab1 300 8 [.cls 12 3, .cls 16 14] H0) = true := by kernel_rfl
theorem run_3_15 : isT (run tab1 300 8 [.cls 12 3, .cls 16 15] H0) = true := by kernel_rfl
theorem run_4_0 : isT (run tab1 300 8 [.cls 12 4, .cls 16 0] H0) = true := by kernel_rfl
theorem run_4_1 : isT (run tab1 300 8 [.cls 12 4, .cls 16 1] H0) = true := by kernel_rfl
theorem run_4_2 : isT (run tab1 300 8 [.cls 12 4, .cls 16 2] H0) = true := by kernel_rfl
theorem run_4_3 : isT (run tab1 300 8 [.cls 12 4, .cls 16 3] H0) = true := by kernel_rfl
theorem run_4_4 : isT (run tab1 300 8 [.cls 12 4, .cls 16 4] H0) = true := by kernel_rfl
theorem run_4_5 : isT (run tab1 300 8 [.cls 12 4, .cls 16 5] H0) = true := by kernel_rfl
theorem run_4_6 : isT (run tab1 300 8 [.cls 12 4, .cls 16 6] H0) = true := by kernel_rfl
theorem run_4_7 : isT (run tab1 300 8 [.cls 12 4, .cls 16 7] H0) = true := by kernel_rfl
end Go.Proofs.YtmihjeiilgnidaaGreatDoor.TopWidth
