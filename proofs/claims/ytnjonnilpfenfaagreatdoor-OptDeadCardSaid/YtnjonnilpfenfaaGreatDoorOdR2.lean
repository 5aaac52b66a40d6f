/- Runs of the law. -/
import Derived.Test.YtnjonnilpfenfaaGreatDoorOdU
import Derived.Test.YtnjonnilpfenfaaGreatDoorLw
import Derived.KernelRfl
open Go.Ab
set_option maxRecDepth 100000
namespace Go.Proofs.YtnjonnilpfenfaaGreatDoor.OptDead
theorem r_36_t : isTs tab3 6 ((List.range 16).map fun k => [.cls 90 36, .bool true, .cls 16 k]) = true := by kernel_rfl
theorem r_37_t : isTs tab3 6 ((List.range 16).map fun k => [.cls 90 37, .bool true, .cls 16 k]) = true := by kernel_rfl
theorem r_38_t : isTs tab3 6 ((List.range 16).map fun k => [.cls 90 38, .bool true, .cls 16 k]) = true := by kernel_rfl
theorem r_39_t : isTs tab3 6 ((List.range 16).map fun k => [.cls 90 39, .bool true, .cls 16 k]) = true := by kernel_rfl
theorem r_40_t : isTs tab3 6 ((List.range 16).map fun k => [.cls 90 40, .bool true, .cls 16 k]) = true := by kernel_rfl
theorem r_41_t : isTs tab3 6 ((List.range 16).map fun k => [.cls 90 41, .bool true, .cls 16 k]) = true := by kernel_rfl
theorem r_42_t : isTs tab3 6 ((List.range 16).map fun k => [.cls 90 42, .bool true, .cls 16 k]) = true := by kernel_rfl
theorem r_43_t : isTs tab3 6 ((List.range 16).map fun k => [.cls 90 43, .bool true, .cls 16 k]) = true := by kernel_rfl
theorem r_44_t : isTs tab3 6 ((List.range 16).map fun k => [.cls 90 44, .bool true, .cls 16 k]) = true := by kernel_rfl
theorem r_45_t : isTs tab3 6 ((List.range 16).map fun k => [.cls 90 45, .bool true, .cls 16 k]) = true := by kernel_rfl
theorem r_46_t : isTs tab3 6 ((List.range 16).map fun k => [.cls 90 46, .bool true, .cls 16 k]) = true := by kernel_rfl
theorem r_47_t : isTs tab3 6 ((List.range 16).map fun k => [.cls 90 47, .bool true, .cls 16 k]) = true := by kernel_rfl
theorem r_48_t : isTs tab3 6 ((List.range 16).map fun k => [.cls 90 48, .bool true, .cls 16 k]) = true := by kernel_rfl
theorem r_49_t : isTs tab3 6 ((List.range 16).map fun k => [.cls 90 49, .bool true, .cls 16 k]) = true := by kernel_rfl
theorem r_50_t : isTs tab3 6 ((List.range 16).map fun k => [.cls 90 50, .bool true, .cls 16 k]) = true := by kernel_rfl
theorem r_51_t : isTs tab3 6 ((List.range 16).map fun k => [.cls 90 51, .bool true, .cls 16 k]) = true := by kernel_rfl
theorem r_52_t : isTs tab3 6 ((List.range 16).map fun k => [.cls 90 52, .bool true, .cls 16 k]) = true := by kernel_rfl
theorem r_53_t : isTs tab3 6 ((List.range 16).map fun k => [.cls 90 53, .bool true, .cls 16 k]) = true := by kernel_rfl
theorem r_54_t : isTs tab3 6 ((List.range 16).map fun k => [.cls 90 54, .bool true, .cls 16 k]) = true := by kernel_rfl
theorem r_55_t : isTs tab3 6 ((List.range 16).map fun k => [.cls 90 55, .bool true, .cls 16 k]) = true := by kernel_rfl
theorem r_56_t : isTs tab3 6 ((List.range 16).map fun k => [.cls 90 56, .bool true, .cls 16 k]) = true := by kernel_rfl
theorem r_57_t : isTs tab3 6 ((List.range 16).map fun k => [.cls 90 57, .bool true, .cls 16 k]) = true := by kernel_rfl
theorem r_58_t : isTs tab3 6 ((List.range 16).map fun k => [.cls 90 58, .bool true, .cls 16 k]) = true := by kernel_rfl
theorem r_59_t : isTs tab3 6 ((List.range 16).map fun k => [.cls 90 59, .bool true, .cls 16 k]) = true := by kernel_rfl
theorem r_60_t : isTs tab3 6 ((List.range 16).map fun k => [.cls 90 60, .bool true, .cls 16 k]) = true := by kernel_rfl
theorem r_61_t : isTs tab3 6 ((List.range 16).map fun k => [.cls 90 61, .bool true, .cls 16 k]) = true := by kernel_rfl
theorem r_62_t : isTs tab3 6 ((List.range 16).map fun k => [.cls 90 62, .bool true, .cls 16 k]) = true := by kernel_rfl
end Go.Proofs.YtnjonnilpfenfaaGreatDoor.OptDead
