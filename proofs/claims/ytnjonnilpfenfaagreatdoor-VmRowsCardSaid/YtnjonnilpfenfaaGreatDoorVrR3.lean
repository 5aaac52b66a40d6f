/- Runs of the law. -/
import Derived.Test.YtnjonnilpfenfaaGreatDoorVrT
import Derived.Test.YtnjonnilpfenfaaGreatDoorLw
import Derived.KernelRfl
open Go.Ab
set_option maxRecDepth 100000
namespace Go.Proofs.YtnjonnilpfenfaaGreatDoor.VmRows
theorem r_13_t : isTs tab1 3 ((List.range 16).map fun k => [.cls 18 13, .cls 16 k, .bool true]) = true := by kernel_rfl
theorem r_14_f : isTs tab1 3 ((List.range 16).map fun k => [.cls 18 14, .cls 16 k, .bool false]) = true := by kernel_rfl
theorem r_14_t : isTs tab1 3 ((List.range 16).map fun k => [.cls 18 14, .cls 16 k, .bool true]) = true := by kernel_rfl
theorem r_15_f : isTs tab1 3 ((List.range 16).map fun k => [.cls 18 15, .cls 16 k, .bool false]) = true := by kernel_rfl
theorem r_15_t : isTs tab1 3 ((List.range 16).map fun k => [.cls 18 15, .cls 16 k, .bool true]) = true := by kernel_rfl
theorem r_16_f : isTs tab1 3 ((List.range 16).map fun k => [.cls 18 16, .cls 16 k, .bool false]) = true := by kernel_rfl
theorem r_16_t : isTs tab1 3 ((List.range 16).map fun k => [.cls 18 16, .cls 16 k, .bool true]) = true := by kernel_rfl
theorem r_17_f : isTs tab1 3 ((List.range 16).map fun k => [.cls 18 17, .cls 16 k, .bool false]) = true := by kernel_rfl
theorem r_17_t : isTs tab1 3 ((List.range 16).map fun k => [.cls 18 17, .cls 16 k, .bool true]) = true := by kernel_rfl
end Go.Proofs.YtnjonnilpfenfaaGreatDoor.VmRows
