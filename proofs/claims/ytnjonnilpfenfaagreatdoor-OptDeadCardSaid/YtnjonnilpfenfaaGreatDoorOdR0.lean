/- Runs of the law. -/
import Derived.Test.YtnjonnilpfenfaaGreatDoorOdU
import Derived.Test.YtnjonnilpfenfaaGreatDoorLw
import Derived.KernelRfl
open Go.Ab
set_option maxRecDepth 100000
namespace Go.Proofs.YtnjonnilpfenfaaGreatDoor.OptDead
theorem r_0_f : isTs tab3 6 ((List.range 16).map fun k => [.cls 18 0, .bool false, .cls 16 k]) = true := by kernel_rfl
theorem r_1_f : isTs tab3 6 ((List.range 16).map fun k => [.cls 18 1, .bool false, .cls 16 k]) = true := by kernel_rfl
theorem r_2_f : isTs tab3 6 ((List.range 16).map fun k => [.cls 18 2, .bool false, .cls 16 k]) = true := by kernel_rfl
theorem r_3_f : isTs tab3 6 ((List.range 16).map fun k => [.cls 18 3, .bool false, .cls 16 k]) = true := by kernel_rfl
theorem r_4_f : isTs tab3 6 ((List.range 16).map fun k => [.cls 18 4, .bool false, .cls 16 k]) = true := by kernel_rfl
theorem r_5_f : isTs tab3 6 ((List.range 16).map fun k => [.cls 18 5, .bool false, .cls 16 k]) = true := by kernel_rfl
theorem r_6_f : isTs tab3 6 ((List.range 16).map fun k => [.cls 18 6, .bool false, .cls 16 k]) = true := by kernel_rfl
theorem r_7_f : isTs tab3 6 ((List.range 16).map fun k => [.cls 18 7, .bool false, .cls 16 k]) = true := by kernel_rfl
theorem r_8_f : isTs tab3 6 ((List.range 16).map fun k => [.cls 18 8, .bool false, .cls 16 k]) = true := by kernel_rfl
theorem r_9_f : isTs tab3 6 ((List.range 16).map fun k => [.cls 18 9, .bool false, .cls 16 k]) = true := by kernel_rfl
theorem r_10_f : isTs tab3 6 ((List.range 16).map fun k => [.cls 18 10, .bool false, .cls 16 k]) = true := by kernel_rfl
theorem r_11_f : isTs tab3 6 ((List.range 16).map fun k => [.cls 18 11, .bool false, .cls 16 k]) = true := by kernel_rfl
theorem r_12_f : isTs tab3 6 ((List.range 16).map fun k => [.cls 18 12, .bool false, .cls 16 k]) = true := by kernel_rfl
theorem r_13_f : isTs tab3 6 ((List.range 16).map fun k => [.cls 18 13, .bool false, .cls 16 k]) = true := by kernel_rfl
theorem r_14_f : isTs tab3 6 ((List.range 16).map fun k => [.cls 18 14, .bool false, .cls 16 k]) = true := by kernel_rfl
theorem r_15_f : isTs tab3 6 ((List.range 16).map fun k => [.cls 18 15, .bool false, .cls 16 k]) = true := by kernel_rfl
theorem r_16_f : isTs tab3 6 ((List.range 16).map fun k => [.cls 18 16, .bool false, .cls 16 k]) = true := by kernel_rfl
theorem r_17_f : isTs tab3 6 ((List.range 16).map fun k => [.cls 18 17, .bool false, .cls 16 k]) = true := by kernel_rfl
theorem r_0_t : isTs tab3 6 ((List.range 16).map fun k => [.cls 90 0, .bool true, .cls 16 k]) = true := by kernel_rfl
theorem r_1_t : isTs tab3 6 ((List.range 16).map fun k => [.cls 90 1, .bool true, .cls 16 k]) = true := by kernel_rfl
theorem r_2_t : isTs tab3 6 ((List.range 16).map fun k => [.cls 90 2, .bool true, .cls 16 k]) = true := by kernel_rfl
theorem r_3_t : isTs tab3 6 ((List.range 16).map fun k => [.cls 90 3, .bool true, .cls 16 k]) = true := by kernel_rfl
theorem r_4_t : isTs tab3 6 ((List.range 16).map fun k => [.cls 90 4, .bool true, .cls 16 k]) = true := by kernel_rfl
theorem r_5_t : isTs tab3 6 ((List.range 16).map fun k => [.cls 90 5, .bool true, .cls 16 k]) = true := by kernel_rfl
theorem r_6_t : isTs tab3 6 ((List.range 16).map fun k => [.cls 90 6, .bool true, .cls 16 k]) = true := by kernel_rfl
theorem r_7_t : isTs tab3 6 ((List.range 16).map fun k => [.cls 90 7, .bool true, .cls 16 k]) = true := by kernel_rfl
theorem r_8_t : isTs tab3 6 ((List.range 16).map fun k => [.cls 90 8, .bool true, .cls 16 k]) = true := by kernel_rfl
end Go.Proofs.YtnjonnilpfenfaaGreatDoor.OptDead
