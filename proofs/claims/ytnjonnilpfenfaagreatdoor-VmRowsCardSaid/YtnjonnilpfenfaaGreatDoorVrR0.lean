/- Runs of the law. -/
import Derived.Test.YtnjonnilpfenfaaGreatDoorVrT
import Derived.Test.YtnjonnilpfenfaaGreatDoorLw
import Derived.KernelRfl
open Go.Ab
set_option maxRecDepth 100000
namespace Go.Proofs.YtnjonnilpfenfaaGreatDoor.VmRows
theorem r_0_f : isTs tab1 3 ((List.range 16).map fun k => [.cls 18 0, .cls 16 k, .bool false]) = true := by kernel_rfl
theorem r_0_t : isTs tab1 3 ((List.range 16).map fun k => [.cls 18 0, .cls 16 k, .bool true]) = true := by kernel_rfl
theorem r_1_f : isTs tab1 3 ((List.range 16).map fun k => [.cls 18 1, .cls 16 k, .bool false]) = true := by kernel_rfl
theorem r_1_t : isTs tab1 3 ((List.range 16).map fun k => [.cls 18 1, .cls 16 k, .bool true]) = true := by kernel_rfl
theorem r_2_f : isTs tab1 3 ((List.range 16).map fun k => [.cls 18 2, .cls 16 k, .bool false]) = true := by kernel_rfl
theorem r_2_t : isTs tab1 3 ((List.range 16).map fun k => [.cls 18 2, .cls 16 k, .bool true]) = true := by kernel_rfl
theorem r_3_f : isTs tab1 3 ((List.range 16).map fun k => [.cls 18 3, .cls 16 k, .bool false]) = true := by kernel_rfl
theorem r_3_t : isTs tab1 3 ((List.range 16).map fun k => [.cls 18 3, .cls 16 k, .bool true]) = true := by kernel_rfl
theorem r_4_f : isTs tab1 3 ((List.range 16).map fun k => [.cls 18 4, .cls 16 k, .bool false]) = true := by kernel_rfl
end Go.Proofs.YtnjonnilpfenfaaGreatDoor.VmRows
