/- The tie of the listed package-level variables of the four laws of spruelaw20 to the program's text, each closed fact reckoned by itself (the given text of ties, built whole, outgrows the memory). -/
import Derived.Test.YtnjonnilpfenfaaGreatDoorRows
import Derived.LaidByTextLater
import Derived.SevenTiedAt
import Derived.KernelRfl
open Go
namespace Go.Proofs.YtnjonnilpfenfaaGreatDoor
def laid4 : List (String × DataW Unit) := [("internal/strconv.uint64pow10", Rows.laid_internal_strconv_uint64pow10), ("math/bits.deBruijn32tab", Rows.laid_math_bits_deBruijn32tab), ("math/bits.deBruijn64tab", Rows.laid_math_bits_deBruijn64tab)]
theorem my_noOwnUnsafe : Tryz.pinned.checked.prog.headLifts.contains "ownunsafe" = false := by kernel_rfl
theorem ti_w : Tryz.prog.worded (varsWordLater true) = true := by kernel_rfl
theorem ti_w2 : Tryz.prog.worded (varsWordLater !true) = false := by kernel_rfl
theorem ti_root : Tryz.prog.worded rootWordLater = true := by kernel_rfl
theorem ti_k : laid4.map (fun x => Tryz.prog.kindOfLater x.1) = [LaidKind.data, .data, .data].map some := by kernel_rfl
theorem ti_g : (Tryz.prog.funcNamed "gosem.cut.vars").isSome = true := by kernel_rfl
theorem ti_n : varsNamedLaterB Tryz.prog (varsId Tryz.prog) laid4 = true := by kernel_rfl
theorem ti_d : ∀ os tape, varsDone Tryz.prog 400 (varsId Tryz.prog) os tape = true := fun _ _ => by kernel_rfl
theorem ti_1 : ∀ os tape, (DataW.laidRun Tryz.prog (varsWorld Tryz.prog 400 (varsId Tryz.prog) os tape).memory 8 (laid4.map (·.1))).map (·.1) = some laid4 := fun _ _ => by kernel_rfl
theorem ti_2 : ∀ os tape, (DataW.laidRun Tryz.prog (varsWorld Tryz.prog 400 (varsId Tryz.prog) os tape).memory 8 (laid4.map (·.1))).map (fun x => decide x.2.Nodup && laidRowsB Tryz.prog (varsWorld Tryz.prog 400 (varsId Tryz.prog) os tape).memory x.2) = some true := fun _ _ => by kernel_rfl
theorem ti_p : (laid4.all fun x => x.2.handleName?.isNone) = true := by kernel_rfl
theorem ti : Tryz.prog.laidByTextLater laid4 [.data, .data, .data] true := Program.laidByTextLater_by_run 400 8 ti_w ti_w2 ti_root ti_k ti_g ti_n ti_d ti_1 ti_2 ti_p
theorem ti_vmRows : Rows.vmRowsRow.laidByTextAt .later Tryz.pinned [.data, .data, .data] true := OpenClaim.laidByTextAt_later rfl rfl ti my_noOwnUnsafe
theorem ti_vmWrites : Rows.vmWritesRow.laidByTextAt .later Tryz.pinned [.data, .data, .data] true := OpenClaim.laidByTextAt_later rfl rfl ti my_noOwnUnsafe
theorem ti_vmSteps : Rows.vmStepsRow.laidByTextAt .later Tryz.pinned [.data, .data, .data] true := OpenClaim.laidByTextAt_later rfl rfl ti my_noOwnUnsafe
theorem ti_optDead : Rows.optDeadRow.laidByTextAt .later Tryz.pinned [.data, .data, .data] true := OpenClaim.laidByTextAt_later rfl rfl ti my_noOwnUnsafe
end Go.Proofs.YtnjonnilpfenfaaGreatDoor
