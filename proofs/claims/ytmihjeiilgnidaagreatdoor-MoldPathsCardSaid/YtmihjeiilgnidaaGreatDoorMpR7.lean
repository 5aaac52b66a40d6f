/- Runs of the law. -/
import Derived.Test.YtmihjeiilgnidaaGreatDoorTab
import Derived.Test.YtmihjeiilgnidaaGreatDoorLaw
import Derived.KernelRfl
open Go.Ab
namespace Go.Proofs.YtmihjeiilgnidaaGreatDoor.MoldPaths
theorem run_3_8 : isT (run tab 300 6 [.cls 8 3, .cls 16 8] H0) = true := by kernel_rfl
theorem run_3_9 : isT (run tab 300 6 [.cls 8 3, .cls 16 9] H0) = true := by kernel_rfl
theorem run_3_10 : isT (run tab 300 6 [.cls 8 3, .cls 16 10] H0) = true := by kernel_rfl
theorem run_3_11 : isT (run tab 300 6 [.cls 8 3, .cls 16 11] H0) = true := by kernel_rfl
theorem run_3_12 : isT (run tab 300 6 [.cls 8 3, .cls 16 12] H0) = true := by kernel_rfl
theorem run_3_13 : isT (run tab 300 6 [.cls 8 3, .cls 16 13] H0) = true := by kernel_rfl
theorem run_3_14 : isT (run tab 300 6 [.cls 8 3, .cls 16 14] H0) = true := by kernel_rfl
theorem run_3_15 : isT (run tab 300 6 [.cls 8 3, .cls 16 15] H0) = true := by kernel_rfl
end Go.Proofs.YtmihjeiilgnidaaGreatDoor.MoldPaths
