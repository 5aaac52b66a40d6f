/- Runs of the law. -/
import Derived.Test.YtnjonnilpfenfaaGreatDoorOdU
import Derived.Test.YtnjonnilpfenfaaGreatDoorLw
import Derived.KernelRfl
open Go.Ab
set_option maxRecDepth 100000
namespace Go.Proofs.YtnjonnilpfenfaaGreatDoor.OptDead
theorem r_9_t : isTs tab3 6 ((List.range 16).map fun k => [.cls 90 9, .bool true, .cls 16 k]) = true := by kernel_rfl
theorem r_10_t : isTs tab3 6 ((List.range 16).map fun k => [.cls 90 10, .bool true, .cls 16 k]) = true := by kernel_rfl
theorem r_11_t : isTs tab3 6 ((List.range 16).map fun k => [.cls 90 11, .bool true, .cls 16 k]) = true := by kernel_rfl
theorem r_12_t : isTs tab3 6 ((List.range 16).map fun k => [.cls 90 12, .bool true, .cls 16 k]) = true := by kernel_rfl
theorem r_13_t : isTs tab3 6 ((List.range 16).map fun k => [.cls 90 13, .bool true, .cls 16 k]) = true := by kernel_rfl
theorem r_14_t : isTs tab3 6 ((List.range 16).map fun k => [.cls 90 14, .bool true, .cls 16 k]) = true := by kernel_rfl
theorem r_15_t : isTs tab3 6 ((List.range 16).map fun k => [.cls 90 15, .bool true, .cls 16 k]) = true := by kernel_rfl
theorem r_16_t : isTs tab3 6 ((List.range 16).map fun k => [.cls 90 16, .bool true, .cls 16 k]) = true := by kernel_rfl
theorem r_17_t : isTs tab3 6 ((List.range 16).map fun k => [.cls 90 17, .bool true, .cls 16 k]) = true := by kernel_rfl
theorem r_18_t : isTs tab3 6 ((List.range 16).map fun k => [.cls 90 18, .bool true, .cls 16 k]) = true := by kernel_rfl
theorem r_19_t : isTs tab3 6 ((List.range 16).map fun k => [.cls 90 19, .bool true, .cls 16 k]) = true := by kernel_rfl
theorem r_20_t : isTs tab3 6 ((List.range 16).map fun k => [.cls 90 20, .bool true, .cls 16 k]) = true := by kernel_rfl
theorem r_21_t : isTs tab3 6 ((List.range 16).map fun k => [.cls 90 21, .bool true, .cls 16 k]) = true := by kernel_rfl
theorem r_22_t : isTs tab3 6 ((List.range 16).map fun k => [.cls 90 22, .bool true, .cls 16 k]) = true := by kernel_rfl
theorem r_23_t : isTs tab3 6 ((List.range 16).map fun k => [.cls 90 23, .bool true, .cls 16 k]) = true := by kernel_rfl
theorem r_24_t : isTs tab3 6 ((List.range 16).map fun k => [.cls 90 24, .bool true, .cls 16 k]) = true := by kernel_rfl
theorem r_25_t : isTs tab3 6 ((List.range 16).map fun k => [.cls 90 25, .bool true, .cls 16 k]) = true := by kernel_rfl
theorem r_26_t : isTs tab3 6 ((List.range 16).map fun k => [.cls 90 26, .bool true, .cls 16 k]) = true := by kernel_rfl
theorem r_27_t : isTs tab3 6 ((List.range 16).map fun k => [.cls 90 27, .bool true, .cls 16 k]) = true := by kernel_rfl
theorem r_28_t : isTs tab3 6 ((List.range 16).map fun k => [.cls 90 28, .bool true, .cls 16 k]) = true := by kernel_rfl
theorem r_29_t : isTs tab3 6 ((List.range 16).map fun k => [.cls 90 29, .bool true, .cls 16 k]) = true := by kernel_rfl
theorem r_30_t : isTs tab3 6 ((List.range 16).map fun k => [.cls 90 30, .bool true, .cls 16 k]) = true := by kernel_rfl
theorem r_31_t : isTs tab3 6 ((List.range 16).map fun k => [.cls 90 31, .bool true, .cls 16 k]) = true := by kernel_rfl
theorem r_32_t : isTs tab3 6 ((List.range 16).map fun k => [.cls 90 32, .bool true, .cls 16 k]) = true := by kernel_rfl
theorem r_33_t : isTs tab3 6 ((List.range 16).map fun k => [.cls 90 33, .bool true, .cls 16 k]) = true := by kernel_rfl
theorem r_34_t : isTs tab3 6 ((List.range 16).map fun k => [.cls 90 34, .bool true, .cls 16 k]) = true := by kernel_rfl
theorem r_35_t : isTs tab3 6 ((List.range 16).map fun k => [.cls 90 35, .bool true, .cls 16 k]) = true := by kernel_rfl
end Go.Proofs.YtnjonnilpfenfaaGreatDoor.OptDead
