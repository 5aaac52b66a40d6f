/- Runs of the law. -/
import Derived.Test.YtmihjeiilgnidaaGreatDoorTabT
import Derived.Test.YtmihjeiilgnidaaGreatDoorLaw
import Derived.KernelRfl
open Go.Ab
namespace Go.Proofs.YtmihjeiilgnidaaGreatDoor.TopFaults
theorem run_13_4_t : isT (run tab 300 5 [.cls 20 13, .cls 6 4, .bool true] H0) = true := by kernel_rfl
theorem run_13_5_f : isT (run tab 300 5 [.cls 20 13, .cls 6 5, .bool false] H0) = true := by kernel_rfl
theorem run_13_5_t : isT (run tab 300 5 [.cls 20 13, .cls 6 5, .bool true] H0) = true := by kernel_rfl
theorem run_14_0_f : isT (run tab 300 5 [.cls 20 14, .cls 6 0, .bool false] H0) = true := by kernel_rfl
theorem run_14_0_t : isT (run tab 300 5 [.cls 20 14, .cls 6 0, .bool true] H0) = true := by kernel_rfl
theorem run_14_1_f : isT (run tab 300 5 [.cls 20 14, .cls 6 1, .bool false] H0) = true := by kernel_rfl
theorem run_14_1_t : isT (run tab 300 5 [.cls 20 14, .cls 6 1, .bool true] H0) = true := by kernel_rfl
theorem run_14_2_f : isT (run tab 300 5 [.cls 20 14, .cls 6 2, .bool false] H0) = true := by kernel_rfl
theorem run_14_2_t : isT (run tab 300 5 [.cls 20 14, .cls 6 2, .bool true] H0) = true := by kernel_rfl
theorem run_14_3_f : isT (run tab 300 5 [.cls 20 14, .cls 6 3, .bool false] H0) = true := by kernel_rfl
theorem run_14_3_t : isT (run tab 300 5 [.cls 20 14, .cls 6 3, .bool true] H0) = true := by kernel_rfl
theorem run_14_4_f : isT (run tab 300 5 [.cls 20 14, .cls 6 4, .bool false] H0) = true := by kernel_rfl
theorem run_14_4_t : isT (run tab 300 5 [.cls 20 14, .cls 6 4, .bool true] H0) = true := by kernel_rfl
theorem run_14_5_f : isT (run tab 300 5 [.cls 20 14, .cls 6 5, .bool false] H0) = true := by kernel_rfl
theorem run_14_5_t : isT (run tab 300 5 [.cls 20 14, .cls 6 5, .bool true] H0) = true := by kernel_rfl
end Go.Proofs.YtmihjeiilgnidaaGreatDoor.TopFaults
