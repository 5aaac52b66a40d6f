/- Runs of the law. -/
import Derived.Test.YtmihjeiilgnidaaGreatDoorTabT
import Derived.Test.YtmihjeiilgnidaaGreatDoorLaw
import Derived.KernelRfl
open Go.Ab
namespace Go.Proofs.YtmihjeiilgnidaaGreatDoor.TopFaults
theorem run_11_1_t : isT (run tab 300 5 [.cls 20 11, .cls 6 1, .bool true] H0) = true := by kernel_rfl
theorem run_11_2_f : isT (run tab 300 5 [.cls 20 11, .cls 6 2, .bool false] H0) = true := by kernel_rfl
theorem run_11_2_t : isT (run tab 300 5 [.cls 20 11, .cls 6 2, .bool true] H0) = true := by kernel_rfl
theorem run_11_3_f : isT (run tab 300 5 [.cls 20 11, .cls 6 3, .bool false] H0) = true := by kernel_rfl
theorem run_11_3_t : isT (run tab 300 5 [.cls 20 11, .cls 6 3, .bool true] H0) = true := by kernel_rfl
theorem run_11_4_f : isT (run tab 300 5 [.cls 20 11, .cls 6 4, .bool false] H0) = true := by kernel_rfl
theorem run_11_4_t : isT (run tab 300 5 [.cls 20 11, .cls 6 4, .bool true] H0) = true := by kernel_rfl
theorem run_11_5_f : isT (run tab 300 5 [.cls 20 11, .cls 6 5, .bool false] H0) = true := by kernel_rfl
theorem run_11_5_t : isT (run tab 300 5 [.cls 20 11, .cls 6 5, .bool true] H0) = true := by kernel_rfl
theorem run_12_0_f : isT (run tab 300 5 [.cls 20 12, .cls 6 0, .bool false] H0) = true := by kernel_rfl
theorem run_12_0_t : isT (run tab 300 5 [.cls 20 12, .cls 6 0, .bool true] H0) = true := by kernel_rfl
theorem run_12_1_f : isT (run tab 300 5 [.cls 20 12, .cls 6 1, .bool false] H0) = true := by kernel_rfl
theorem run_12_1_t : isT (run tab 300 5 [.cls 20 12, .cls 6 1, .bool true] H0) = true := by kernel_rfl
theorem run_12_2_f : isT (run tab 300 5 [.cls 20 12, .cls 6 2, .bool false] H0) = true := by kernel_rfl
theorem run_12_2_t : isT (run tab 300 5 [.cls 20 12, .cls 6 2, .bool true] H0) = true := by kernel_rfl
end Go.Proofs.YtmihjeiilgnidaaGreatDoor.TopFaults
