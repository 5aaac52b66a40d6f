/- Runs of the law. -/
import Derived.Test.YtnjonnilpfenfaaGreatDoorOdU
import Derived.Test.YtnjonnilpfenfaaGreatDoorLw
import Derived.KernelRfl
open Go.Ab
set_option maxRecDepth 100000
namespace Go.Proofs.YtnjonnilpfenfaaGreatDoor.OptDead
theorem r_63_t : isTs tab3 6 ((List.range 16).map fun k => [.cls 90 63, .bool true, .cls 16 k]) = true := by kernel_rfl
theorem r_64_t : isTs tab3 6 ((List.range 16).map fun k => [.cls 90 64, .bool true, .cls 16 k]) = true := by kernel_rfl
theorem r_65_t : isTs tab3 6 ((List.range 16).map fun k => [.cls 90 65, .bool true, .cls 16 k]) = true := by kernel_rfl
theorem r_66_t : isTs tab3 6 ((List.range 16).map fun k => [.cls 90 66, .bool true, .cls 16 k]) = true := by kernel_rfl
theorem r_67_t : isTs tab3 6 ((List.range 16).map fun k => [.cls 90 67, .bool true, .cls 16 k]) = true := by kernel_rfl
theorem r_68_t : isTs tab3 6 ((List.range 16).map fun k => [.cls 90 68, .bool true, .cls 16 k]) = true := by kernel_rfl
theorem r_69_t : isTs tab3 6 ((List.range 16).map fun k => [.cls 90 69, .bool true, .cls 16 k]) = true := by kernel_rfl
theorem r_70_t : isTs tab3 6 ((List.range 16).map fun k => [.cls 90 70, .bool true, .cls 16 k]) = true := by kernel_rfl
theorem r_71_t : isTs tab3 6 ((List.range 16).map fun k => [.cls 90 71, .bool true, .cls 16 k]) = true := by kernel_rfl
theorem r_72_t : isTs tab3 6 ((List.range 16).map fun k => [.cls 90 72, .bool true, .cls 16 k]) = true := by kernel_rfl
theorem r_73_t : isTs tab3 6 ((List.range 16).map fun k => [.cls 90 73, .bool true, .cls 16 k]) = true := by kernel_rfl
theorem r_74_t : isTs tab3 6 ((List.range 16).map fun k => [.cls 90 74, .bool true, .cls 16 k]) = true := by kernel_rfl
theorem r_75_t : isTs tab3 6 ((List.range 16).map fun k => [.cls 90 75, .bool true, .cls 16 k]) = true := by kernel_rfl
theorem r_76_t : isTs tab3 6 ((List.range 16).map fun k => [.cls 90 76, .bool true, .cls 16 k]) = true := by kernel_rfl
theorem r_77_t : isTs tab3 6 ((List.range 16).map fun k => [.cls 90 77, .bool true, .cls 16 k]) = true := by kernel_rfl
theorem r_78_t : isTs tab3 6 ((List.range 16).map fun k => [.cls 90 78, .bool true, .cls 16 k]) = true := by kernel_rfl
theorem r_79_t : isTs tab3 6 ((List.range 16).map fun k => [.cls 90 79, .bool true, .cls 16 k]) = true := by kernel_rfl
theorem r_80_t : isTs tab3 6 ((List.range 16).map fun k => [.cls 90 80, .bool true, .cls 16 k]) = true := by kernel_rfl
theorem r_81_t : isTs tab3 6 ((List.range 16).map fun k => [.cls 90 81, .bool true, .cls 16 k]) = true := by kernel_rfl
theorem r_82_t : isTs tab3 6 ((List.range 16).map fun k => [.cls 90 82, .bool true, .cls 16 k]) = true := by kernel_rfl
theorem r_83_t : isTs tab3 6 ((List.range 16).map fun k => [.cls 90 83, .bool true, .cls 16 k]) = true := by kernel_rfl
theorem r_84_t : isTs tab3 6 ((List.range 16).map fun k => [.cls 90 84, .bool true, .cls 16 k]) = true := by kernel_rfl
theorem r_85_t : isTs tab3 6 ((List.range 16).map fun k => [.cls 90 85, .bool true, .cls 16 k]) = true := by kernel_rfl
theorem r_86_t : isTs tab3 6 ((List.range 16).map fun k => [.cls 90 86, .bool true, .cls 16 k]) = true := by kernel_rfl
theorem r_87_t : isTs tab3 6 ((List.range 16).map fun k => [.cls 90 87, .bool true, .cls 16 k]) = true := by kernel_rfl
theorem r_88_t : isTs tab3 6 ((List.range 16).map fun k => [.cls 90 88, .bool true, .cls 16 k]) = true := by kernel_rfl
theorem r_89_t : isTs tab3 6 ((List.range 16).map fun k => [.cls 90 89, .bool true, .cls 16 k]) = true := by kernel_rfl
end Go.Proofs.YtnjonnilpfenfaaGreatDoor.OptDead
