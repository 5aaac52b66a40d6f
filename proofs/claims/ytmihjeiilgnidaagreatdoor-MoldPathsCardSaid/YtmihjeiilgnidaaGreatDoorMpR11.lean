/- Runs of the law. -/
import Derived.Test.YtmihjeiilgnidaaGreatDoorTab
import Derived.Test.YtmihjeiilgnidaaGreatDoorLaw
import Derived.KernelRfl
open Go.Ab
namespace Go.Proofs.YtmihjeiilgnidaaGreatDoor.MoldPaths
theorem run_5_8 : isT (run tab 300 6 [.cls 8 5, .cls 16 8] H0) = true := by kernel_rfl
theorem run_5_9 : isT (run tab 300 6 [.cls 8 5, .cls 16 9] H0) = true := by kernel_rfl
theorem run_5_10 : isT (run tab 300 6 [.cls 8 5, .cls 16 10] H0) = true := by kernel_rfl
theorem run_5_11 : isT (run tab 300 6 [.cls 8 5, .cls 16 11] H0) = true := by kernel_rfl
theorem run_5_12 : isT (run tab 300 6 [.cls 8 5, .cls 16 12] H0) = true := by kernel_rfl
theorem run_5_13 : isT (run tab 300 6 [.cls 8 5, .cls 16 13] H0) = true := by kernel_rfl
theorem run_5_14 : isT (run tab 300 6 [.cls 8 5, .cls 16 14] H0) = true := by kernel_rfl
theorem run_5_15 : isT (run tab 300 6 [.cls 8 5, .cls 16 15] H0) = true := by kernel_rfl
end Go.Proofs.YtmihjeiilgnidaaGreatDoor.MoldPaths
