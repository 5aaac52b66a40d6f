/- Runs of the law. -/
import Derived.Test.YtmihjeiilgnidaaGreatDoorTab
import Derived.Test.YtmihjeiilgnidaaGreatDoorLaw
import Derived.KernelRfl
open Go.Ab
namespace Go.Proofs.YtmihjeiilgnidaaGreatDoor.MoldGiven
theorem run_6_0 : isT (run tab 300 7 [.cls 9 6, .cls 16 0] H0) = true := by kernel_rfl
theorem run_6_1 : isT (run tab 300 7 [.cls 9 6, .cls 16 1] H0) = true := by kernel_rfl
theorem run_6_2 : isT (run tab 300 7 [.cls 9 6, .cls 16 2] H0) = true := by kernel_rfl
theorem run_6_3 : isT (run tab 300 7 [.cls 9 6, .cls 16 3] H0) = true := by kernel_rfl
theorem run_6_4 : isT (run tab 300 7 [.cls 9 6, .cls 16 4] H0) = true := by kernel_rfl
theorem run_6_5 : isT (run tab 300 7 [.cls 9 6, .cls 16 5] H0) = true := by kernel_rfl
theorem run_6_6 : isT (run tab 300 7 [.cls 9 6, .cls 16 6] H0) = true := by kernel_rfl
theorem run_6_7 : isT (run tab 300 7 [.cls 9 6, .cls 16 7] H0) = true := by kernel_rfl
theorem run_6_8 : isT (run tab 300 7 [.cls 9 6, .cls 16 8] H0) = true := by kernel_rfl
theorem run_6_9 : isT (run tab 300 7 [.cls 9 6, .cls 16 9] H0) = true := by kernel_rfl
theorem run_6_10 : isT (run tab 300 7 [.cls 9 6, .cls 16 10] H0) = true := by kernel_rfl
theorem run_6_11 : isT (run tab 300 7 [.cls 9 6, .cls 16 11] H0) = true := by kernel_rfl
end Go.Proofs.YtmihjeiilgnidaaGreatDoor.MoldGiven
