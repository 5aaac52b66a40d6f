/- Runs of the law. -/
import Derived.Test.YtmihjeiilgnidaaGreatDoorTwT
import Derived.Test.YtmihjeiilgnidaaGreatDoorLw
import Derived.KernelRfl
open Go.Ab
set_option maxRecDepth 100000
namespace Go.Proofs.YtmihjeiilgnidaaGreatDoor.TopWidth
theorem run_11_4 : isT (run tab1 300 8 [.cls 12 11, .cls 16 4] H0) = true := by kernel_rfl
theorem run_11_5 : isT (run tab1 300 8 [.cls 12 11, .cls 16 5] H0) = true := by kernel_rfl
theorem run_11_6 : isT (run tab1 300 8 [.cls 12 11, .cls 16 6] H0) = true := by kernel_rfl
theorem run_11_7 : isT (run tab1 300 8 [.cls 12 11, .cls 16 7] H0) = true := by kernel_rfl
theorem run_11_8 : isT (run tab1 300 8 [.cls 12 11, .cls 16 8] H0) = true := by kernel_rfl
theorem run_11_9 : isT (run tab1 300 8 [.cls 12 11, .cls 16 9] H0) = true := by kernel_rfl
theorem run_11_10 : isT (run tab1 300 8 [.cls 12 11, .cls 16 10] H0) = true := by kernel_rfl
theorem run_11_11 : isT (run tab1 300 8 [.cls 12 11, .cls 16 11] H0) = true := by kernel_rfl
theorem run_11_12 : isT (run tab1 300 8 [.cls 12 11, .cls 16 12] H0) = true := by kernel_rfl
theorem run_11_13 : isT (run tab1 300 8 [.cls 12 11, .cls 16 13] H0) = true := by kernel_rfl
theorem run_11_14 : isT (run tab1 300 8 [.cls 12 11, .cls 16 14] H0) = true := by kernel_rfl
theorem run_11_15 : isT (run tab1 300 8 [.cls 12 11, .cls 16 15] H0) = true := by kernel_rfl
end Go.Proofs.YtmihjeiilgnidaaGreatDoor.TopWidth
