/- Runs of the law. -/
import Derived.Test.YtgegccpdegaccaaGreatDoorSdT
import Derived.Test.YtgegccpdegaccaaGreatDoorLw
import Derived.KernelRfl
open Go.Ab
set_option maxRecDepth 100000
namespace Go.Proofs.YtgegccpdegaccaaGreatDoor.VmSide
theorem r_0 : isTs tab1 4 ((List.range 16).map fun k => [.sym (.lin .i64 0 1 0 (-9223372036854775808) 9223372036854775807), .sym (.lin .i64 0 0 1 (-9223372036854775808) 9223372036854775807), .cls 16 k]) = true := by kernel_rfl
end Go.Proofs.YtgegccpdegaccaaGreatDoor.VmSide
