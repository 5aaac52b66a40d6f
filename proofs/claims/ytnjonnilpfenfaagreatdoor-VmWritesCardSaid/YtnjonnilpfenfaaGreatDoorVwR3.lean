/- Runs of the law. -/
import Derived.Test.YtnjonnilpfenfaaGreatDoorVwT
import Derived.Test.YtnjonnilpfenfaaGreatDoorLw
import Derived.KernelRfl
open Go.Ab
set_option maxRecDepth 100000
namespace Go.Proofs.YtnjonnilpfenfaaGreatDoor.VmWrites
theorem r_15 : isTs tab1 4 ((List.range 16).map fun k => [.cls 40 15, .cls 16 k]) = true := by kernel_rfl
theorem r_16 : isTs tab1 4 ((List.range 16).map fun k => [.cls 40 16, .cls 16 k]) = true := by kernel_rfl
theorem r_17 : isTs tab1 4 ((List.range 16).map fun k => [.cls 40 17, .cls 16 k]) = true := by kernel_rfl
theorem r_18 : isTs tab1 4 ((List.range 16).map fun k => [.cls 40 18, .cls 16 k]) = true := by kernel_rfl
theorem r_19 : isTs tab1 4 ((List.range 16).map fun k => [.cls 40 19, .cls 16 k]) = true := by kernel_rfl
end Go.Proofs.YtnjonnilpfenfaaGreatDoor.VmWrites
