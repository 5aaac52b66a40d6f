/- Runs of the law. -/
import Derived.Test.YtnjonnilpfenfaaGreatDoorVrT
import Derived.Test.YtnjonnilpfenfaaGreatDoorLw
import Derived.KernelRfl
open Go.Ab
set_option maxRecDepth 100000
namespace Go.Proofs.YtnjonnilpfenfaaGreatDoor.VmRows
theorem r_9_f : isTs tab1 3 ((List.range 16).map fun k => [.cls 18 9, .cls 16 k, .bool false]) = true := by kernel_rfl
theorem r_9_t : isTs tab1 3 ((List.range 16).map fun k => [.cls 18 9, .cls 16 k, .bool true]) = true := by kernel_rfl
theorem r_10_f : isTs tab1 3 ((List.range 16).map fun k => [.cls 18 10, .cls 16 k, .bool false]) = true := by kernel_rfl
theorem r_10_t : isTs tab1 3 ((List.range 16).map fun k => [.cls 18 10, .cls 16 k, .bool true]) = true := by kernel_rfl
theorem r_11_f : isTs tab1 3 ((List.range 16).map fun k => [.cls 18 11, .cls 16 k, .bool false]) = true := by kernel_rfl
theorem r_11_t : isTs tab1 3 ((List.range 16).map fun k => [.cls 18 11, .cls 16 k, .bool true]) = true := by kernel_rfl
theorem r_12_f : isTs tab1 3 ((List.range 16).map fun k => [.cls 18 12, .cls 16 k, .bool false]) = true := by kernel_rfl
theorem r_12_t : isTs tab1 3 ((List.range 16).map fun k => [.cls 18 12, .cls 16 k, .bool true]) = true := by kernel_rfl
theorem r_13_f : isTs tab1 3 ((List.range 16).map fun k => [.cls 18 13, .cls 16 k, .bool false]) = true := by kernel_rfl
end Go.Proofs.YtnjonnilpfenfaaGreatDoor.VmRows
