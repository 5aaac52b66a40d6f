/- The law's runs. -/
import Derived.Test.YtmihjeiilgnidaaGreatDoorTab
import Derived.Test.YtmihjeiilgnidaaGreatDoorLaw
import Derived.KernelRfl
open Go.Ab
namespace Go.Proofs.YtmihjeiilgnidaaGreatDoor.MoldRefuses
theorem run0 : isT (run tab 300 4 [.cls 10 0, .anyint .i64] H0) = true := by kernel_rfl
theorem run1 : isT (run tab 300 4 [.cls 10 1, .anyint .i64] H0) = true := by kernel_rfl
theorem run2 : isT (run tab 300 4 [.cls 10 2, .anyint .i64] H0) = true := by kernel_rfl
theorem run3 : isT (run tab 300 4 [.cls 10 3, .anyint .i64] H0) = true := by kernel_rfl
theorem run4 : isT (run tab 300 4 [.cls 10 4, .anyint .i64] H0) = true := by kernel_rfl
theorem run6 : isT (run tab 300 4 [.cls 10 6, .anyint .i64] H0) = true := by kernel_rfl
theorem run7 : isT (run tab 300 4 [.cls 10 7, .anyint .i64] H0) = true := by kernel_rfl
theorem run8 : isT (run tab 300 4 [.cls 10 8, .anyint .i64] H0) = true := by kernel_rfl
theorem run9 : isT (run tab 300 4 [.cls 10 9, .anyint .i64] H0) = true := by kernel_rfl
theorem run5p0 : isT (run tab 300 4 [.cls 10 5, .cls 16 0] H0) = true := by kernel_rfl
theorem run5p1 : isT (run tab 300 4 [.cls 10 5, .cls 16 1] H0) = true := by kernel_rfl
theorem run5p2 : isT (run tab 300 4 [.cls 10 5, .cls 16 2] H0) = true := by kernel_rfl
theorem run5p3 : isT (run tab 300 4 [.cls 10 5, .cls 16 3] H0) = true := by kernel_rfl
theorem run5p4 : isT (run tab 300 4 [.cls 10 5, .cls 16 4] H0) = true := by kernel_rfl
theorem run5p5 : isT (run tab 300 4 [.cls 10 5, .cls 16 5] H0) = true := by kernel_rfl
theorem run5p6 : isT (run tab 300 4 [.cls 10 5, .cls 16 6] H0) = true := by kernel_rfl
theorem run5p7 : isT (run tab 300 4 [.cls 10 5, .cls 16 7] H0) = true := by kernel_rfl
theorem run5p8 : isT (run tab 300 4 [.cls 10 5, .cls 16 8] H0) = true := by kernel_rfl
theorem run5p9 : isT (run tab 300 4 [.cls 10 5, .cls 16 9] H0) = true := by kernel_rfl
theorem run5p10 : isT (run tab 300 4 [.cls 10 5, .cls 16 10] H0) = true := by kernel_rfl
theorem run5p11 : isT (run tab 300 4 [.cls 10 5, .cls 16 11] H0) = true := by kernel_rfl
theorem run5p12 : isT (run tab 300 4 [.cls 10 5, .cls 16 12] H0) = true := by kernel_rfl
theorem run5p13 : isT (run tab 300 4 [.cls 10 5, .cls 16 13] H0) = true := by kernel_rfl
theorem run5p14 : isT (run tab 300 4 [.cls 10 5, .cls 16 14] H0) = true := by kernel_rfl
theorem run5p15 : isT (run tab 300 4 [.cls 10 5, .cls 16 15] H0) = true := by kernel_rfl
end Go.Proofs.YtmihjeiilgnidaaGreatDoor.MoldRefuses
