/- Runs of the law. -/
import Derived.Test.YtnjonnilpfenfaaGreatDoorVrT
import Derived.Test.YtnjonnilpfenfaaGreatDoorLw
import Derived.KernelRfl
open Go.Ab
set_option maxRecDepth 100000
namespace Go.Proofs.YtnjonnilpfenfaaGreatDoor.VmRows
theorem r_4_t : isTs tab1 3 ((List.range 16).map fun k => [.cls 18 4, .cls 16 k, .bool true]) = true := by kernel_rfl
theorem r_5_f : isTs tab1 3 ((List.range 16).map fun k => [.cls 18 5, .cls 16 k, .bool false]) = true := by kernel_rfl
theorem r_5_t : isTs tab1 3 ((List.range 16).map fun k => [.cls 18 5, .cls 16 k, .bool true]) = true := by kernel_rfl
theorem r_6_f : isTs tab1 3 ((List.range 16).map fun k => [.cls 18 6, .cls 16 k, .bool false]) = true := by kernel_rfl
theorem r_6_t : isTs tab1 3 ((List.range 16).map fun k => [.cls 18 6, .cls 16 k, .bool true]) = true := by kernel_rfl
theorem r_7_f : isTs tab1 3 ((List.range 16).map fun k => [.cls 18 7, .cls 16 k, .bool false]) = true := by kernel_rfl
theorem r_7_t : isTs tab1 3 ((List.range 16).map fun k => [.cls 18 7, .cls 16 k, .bool true]) = true := by kernel_rfl
theorem r_8_f : isTs tab1 3 ((List.range 16).map fun k => [.cls 18 8, .cls 16 k, .bool false]) = true := by kernel_rfl
theorem r_8_t : isTs tab1 3 ((List.range 16).map fun k => [.cls 18 8, .cls 16 k, .bool true]) = true := by kernel_rfl
end Go.Proofs.YtnjonnilpfenfaaGreatDoor.VmRows
