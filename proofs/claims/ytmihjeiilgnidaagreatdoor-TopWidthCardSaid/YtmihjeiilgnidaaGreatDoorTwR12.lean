/- Runs of the law. -/
import Derived.Test.YtmihjeiilgnidaaGreatDoorTwT
import Derived.Test.YtmihjeiilgnidaaGreatDoorLw
import Derived.KernelRfl
open Go.Ab
set_option maxRecDepth 100000
namespace Go.Proofs.YtmihjeiilgnidaaGreatDoor.TopWidth
theorem run_9_0 : isT (run tab1 300 8 [.cls 12 9, .cls 16 0] H0) = true := by kernel_rfl
theorem run_9_1 : isT (run tab1 300 8 [.cls 12 9, .cls 16 1] H0) = true := by kernel_rfl
theorem run_9_2 : isT (run tab1 300 8 [.cls 12 9, .cls 16 2] H0) = true := by kernel_rfl
theorem run_9_3 : isT (run tab1 300 8 [.cls 12 9, .cls 16 3] H0) = true := by kernel_rfl
theorem run_9_4 : isT (run tab1 300 8 [.cls 12 9, .cls 16 4] H0) = true := by kernel_rfl
theorem run_9_5 : isT (run tab1 300 8 [.cls 12 9, .cls 16 5] H0) = true := by kernel_rfl
theorem run_9_6 : isT (run tab1 300 8 [.cls 12 9, .cls 16 6] H0) = true := by kernel_rfl
theorem run_9_7 : isT (run tab1 300 8 [.cls 12 9, .cls 16 7] H0) = true := by kernel_rfl
theorem run_9_8 : isT (run tab1 300 8 [.cls 12 9, .cls 16 8] H0) = true := by kernel_rfl
theorem run_9_9 : isT (run tab1 300 8 [.cls 12 9, .cls 16 9] H0) = true := by kernel_rfl
theorem run_9_10 : isT (run tab1 300 8 [.cls 12 9, .cls 16 10] H0) = true := by kernel_rfl
theorem run_9_11 : isT (run tab1 300 8 [.cls 12 9, .cls 16 11] H0) = true := by kernel_rfl
end Go.Proofs.YtmihjeiilgnidaaGreatDoor.TopWidth
