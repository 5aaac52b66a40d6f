/- Runs of the law. -/
import Derived.Test.YtmihjeiilgnidaaGreatDoorTabT
import Derived.Test.YtmihjeiilgnidaaGreatDoorLaw
import Derived.KernelRfl
open Go.Ab
namespace Go.Proofs.YtmihjeiilgnidaaGreatDoor.TopFaults
theorem run_3_4_t : isT (run tab 300 5 [.cls 20 3, .cls 6 4, .bool true] H0) = true := by kernel_rfl
theorem run_3_5_f : isT (run tab 300 5 [.cls 20 3, .cls 6 5, .bool false] H0) = true := by kernel_rfl
theorem run_3_5_t : isT (run tab 300 5 [.cls 20 3, .cls 6 5, .bool true] H0) = true := by kernel_rfl
theorem run_4_0_f : isT (run tab 300 5 [.cls 20 4, .cls 6 0, .bool false] H0) = true := by kernel_rfl
theorem run_4_0_t : isT (run tab 300 5 [.cls 20 4, .cls 6 0, .bool true] H0) = true := by kernel_rfl
theorem run_4_1_f : isT (run tab 300 5 [.cls 20 4, .cls 6 1, .bool false] H0) = true := by kernel_rfl
theorem run_4_1_t : isT (run tab 300 5 [.cls 20 4, .cls 6 1, .bool true] H0) = true := by kernel_rfl
theorem run_4_2_f : isT (run tab 300 5 [.cls 20 4, .cls 6 2, .bool false] H0) = true := by kernel_rfl
theorem run_4_2_t : isT (run tab 300 5 [.cls 20 4, .cls 6 2, .bool true] H0) = true := by kernel_rfl
theorem run_4_3_f : isT (run tab 300 5 [.cls 20 4, .cls 6 3, .bool false] H0) = true := by kernel_rfl
theorem run_4_3_t : isT (run tab 300 5 [.cls 20 4, .cls 6 3, .bool true] H0) = true := by kernel_rfl
theorem run_4_4_f : isT (run tab 300 5 [.cls 20 4, .cls 6 4, .bool false] H0) = true := by kernel_rfl
theorem run_4_4_t : isT (run tab 300 5 [.cls 20 4, .cls 6 4, .bool true] H0) = true := by kernel_rfl
theorem run_4_5_f : isT (run tab 300 5 [.cls 20 4, .cls 6 5, .bool false] H0) = true := by kernel_rfl
theorem run_4_5_t : isT (run tab 300 5 [.cls 20 4, .cls 6 5, .bool true] H0) = true := by kernel_rfl
end Go.Proofs.YtmihjeiilgnidaaGreatDoor.TopFaults
