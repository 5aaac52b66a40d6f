/- Runs of the law. -/
import Derived.Test.YtnjonnilpfenfaaGreatDoorVwT
import Derived.Test.YtnjonnilpfenfaaGreatDoorLw
import Derived.KernelRfl
open Go.Ab
set_option maxRecDepth 100000
namespace Go.Proofs.YtnjonnilpfenfaaGreatDoor.VmWrites
theorem r_25 : isTs tab1 4 ((List.range 16).map fun k => [.cls 40 25, .cls 16 k]) = true := by kernel_rfl
theorem r_26 : isTs tab1 4 ((List.range 16).map fun k => [.cls 40 26, .cls 16 k]) = true := by kernel_rfl
theorem r_27 : isTs tab1 4 ((List.range 16).map fun k => [.cls 40 27, .cls 16 k]) = true := by kernel_rfl
theorem r_28 : isTs tab1 4 ((List.range 16).map fun k => [.cls 40 28, .cls 16 k]) = true := by kernel_rfl
theorem r_29 : isTs tab1 4 ((List.range 16).map fun k => [.cls 40 29, .cls 16 k]) = true := by kernel_rfl
end Go.Proofs.YtnjonnilpfenfaaGreatDoor.VmWrites
