/- Runs of the law. -/
import Derived.Test.YtnjonnilpfenfaaGreatDoorVwT
import Derived.Test.YtnjonnilpfenfaaGreatDoorLw
import Derived.KernelRfl
open Go.Ab
set_option maxRecDepth 100000
namespace Go.Proofs.YtnjonnilpfenfaaGreatDoor.VmWrites
theorem r_5 : isTs tab1 4 ((List.range 16).map fun k => [.cls 40 5, .cls 16 k]) = true := by kernel_rfl
theorem r_6 : isTs tab1 4 ((List.range 16).map fun k => [.cls 40 6, .cls 16 k]) = true := by kernel_rfl
theorem r_7 : isTs tab1 4 ((List.range 16).map fun k => [.cls 40 7, .cls 16 k]) = true := by kernel_rfl
theorem r_8 : isTs tab1 4 ((List.range 16).map fun k => [.cls 40 8, .cls 16 k]) = true := by kernel_rfl
theorem r_9 : isTs tab1 4 ((List.range 16).map fun k => [.cls 40 9, .cls 16 k]) = true := by kernel_rfl
end Go.Proofs.YtnjonnilpfenfaaGreatDoor.VmWrites
