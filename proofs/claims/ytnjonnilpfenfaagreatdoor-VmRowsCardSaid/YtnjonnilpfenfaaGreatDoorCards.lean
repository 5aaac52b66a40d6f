/-
  DERIVED. GIVEN WITH THE SEED: THE CARDS: each row of YtnjonnilpfenfaaGreatDoorRows.lean that lists a variable, with what it lists TIED to the program's text (the seventh form; the later family's looks); each row that meets fmt, with fmt's text TOLD by the authors' own Lean function (tested against real Go, not proved from fmt's source: count such statements apart). THE CARD IS WHAT COUNTS. Prove the row's statement (the work); the ties are given (YtnjonnilpfenfaaGreatDoorTie.lean); close each card by the builder's one call (the guide's Derived/Test/ToyasCard.lean, 'card_holds'). Laid BY PROGRAM, IN A SANDBOX (cutbox-door.mjs). By AI agents, Wed Nov 11 2026. No macro, syntax, notation, axiom, sorry.
-/
import Derived.Test.YtnjonnilpfenfaaGreatDoorRows
import GoSem.ClaimSeven
namespace Go.Proofs.YtnjonnilpfenfaaGreatDoor
namespace Rows

/-- THE TIED CARD OF 'spruelaw20.VmRows'. -/
def vmRowsCard : Claim7 := { stood := { row := vmRowsRow, standIns := [], harness := (true, "44236430a4918e08e62365ab07f198972984fb61d58e27e0446865a30bd6370f"), looks := false }, kinds := [], alts := [], laidByText := true, laidKinds := [.data, .data, .data], laidTests := true, laidLooks := .later }
def VmRowsCardSaid : Prop := Claim7.holds Tryz.pinned (.plain (OpenSpec.ofChange vmRowsSpec)) vmRowsCard

/-- THE TIED CARD OF 'spruelaw20.VmWrites'. -/
def vmWritesCard : Claim7 := { stood := { row := vmWritesRow, standIns := [], harness := (true, "44236430a4918e08e62365ab07f198972984fb61d58e27e0446865a30bd6370f"), looks := false }, kinds := [], alts := [], laidByText := true, laidKinds := [.data, .data, .data], laidTests := true, laidLooks := .later }
def VmWritesCardSaid : Prop := Claim7.holds Tryz.pinned (.plain (OpenSpec.ofChange vmWritesSpec)) vmWritesCard

/-- THE TIED CARD OF 'spruelaw20.VmSteps'. -/
def vmStepsCard : Claim7 := { stood := { row := vmStepsRow, standIns := [], harness := (true, "44236430a4918e08e62365ab07f198972984fb61d58e27e0446865a30bd6370f"), looks := false }, kinds := [], alts := [], laidByText := true, laidKinds := [.data, .data, .data], laidTests := true, laidLooks := .later }
def VmStepsCardSaid : Prop := Claim7.holds Tryz.pinned (.plain (OpenSpec.ofChange vmStepsSpec)) vmStepsCard

/-- THE TIED CARD OF 'spruelaw20.OptDead'. -/
def optDeadCard : Claim7 := { stood := { row := optDeadRow, standIns := [], harness := (true, "44236430a4918e08e62365ab07f198972984fb61d58e27e0446865a30bd6370f"), looks := false }, kinds := [], alts := [], laidByText := true, laidKinds := [.data, .data, .data], laidTests := true, laidLooks := .later }
def OptDeadCardSaid : Prop := Claim7.holds Tryz.pinned (.plain (OpenSpec.ofChange optDeadSpec)) optDeadCard

/-- THE TIED CARD OF 'spruetop.TopUnions'. -/
def topUnionsCard : Claim7 := { stood := { row := topUnionsRow, standIns := [], harness := (true, "44236430a4918e08e62365ab07f198972984fb61d58e27e0446865a30bd6370f"), looks := false }, kinds := [], alts := [], laidByText := true, laidKinds := [.data, .listed, .pinned, .data, .data, .data, .data], laidTests := true, laidLooks := .later }
def TopUnionsCardSaid : Prop := Claim7.holds Tryz.pinned (.plain (OpenSpec.ofChange topUnionsSpec)) topUnionsCard

/-- THE SECOND FORM's CARD OF 'spruelaw20.VmRows'. -/
def vmRowsUptoCard : Claim7 := { stood := { row := vmRowsUptoRow, standIns := [], harness := (true, "44236430a4918e08e62365ab07f198972984fb61d58e27e0446865a30bd6370f"), looks := false }, kinds := [], alts := [], laidByText := true, laidKinds := [.data, .data, .data], laidTests := true, laidLooks := .later }
def VmRowsUptoCardSaid : Prop := Claim7.holds Tryz.pinned (.plain (OpenSpec.upto vmRowsSpec)) vmRowsUptoCard

/-- THE SECOND FORM's CARD OF 'spruelaw20.VmWrites'. -/
def vmWritesUptoCard : Claim7 := { stood := { row := vmWritesUptoRow, standIns := [], harness := (true, "44236430a4918e08e62365ab07f198972984fb61d58e27e0446865a30bd6370f"), looks := false }, kinds := [], alts := [], laidByText := true, laidKinds := [.data, .data, .data], laidTests := true, laidLooks := .later }
def VmWritesUptoCardSaid : Prop := Claim7.holds Tryz.pinned (.plain (OpenSpec.upto vmWritesSpec)) vmWritesUptoCard

/-- THE SECOND FORM's CARD OF 'spruelaw20.VmSteps'. -/
def vmStepsUptoCard : Claim7 := { stood := { row := vmStepsUptoRow, standIns := [], harness := (true, "44236430a4918e08e62365ab07f198972984fb61d58e27e0446865a30bd6370f"), looks := false }, kinds := [], alts := [], laidByText := true, laidKinds := [.data, .data, .data], laidTests := true, laidLooks := .later }
def VmStepsUptoCardSaid : Prop := Claim7.holds Tryz.pinned (.plain (OpenSpec.upto vmStepsSpec)) vmStepsUptoCard

/-- THE SECOND FORM's CARD OF 'spruelaw20.OptDead'. -/
def optDeadUptoCard : Claim7 := { stood := { row := optDeadUptoRow, standIns := [], harness := (true, "44236430a4918e08e62365ab07f198972984fb61d58e27e0446865a30bd6370f"), looks := false }, kinds := [], alts := [], laidByText := true, laidKinds := [.data, .data, .data], laidTests := true, laidLooks := .later }
def OptDeadUptoCardSaid : Prop := Claim7.holds Tryz.pinned (.plain (OpenSpec.upto optDeadSpec)) optDeadUptoCard

/-- THE SECOND FORM's CARD OF 'spruetop.TopUnions'. -/
def topUnionsUptoCard : Claim7 := { stood := { row := topUnionsUptoRow, standIns := [], harness := (true, "44236430a4918e08e62365ab07f198972984fb61d58e27e0446865a30bd6370f"), looks := false }, kinds := [], alts := [], laidByText := true, laidKinds := [.data, .listed, .pinned, .data, .data, .data, .data], laidTests := true, laidLooks := .later }
def TopUnionsUptoCardSaid : Prop := Claim7.holds Tryz.pinned (.plain (OpenSpec.upto topUnionsSpec)) topUnionsUptoCard
end Rows
end Go.Proofs.YtnjonnilpfenfaaGreatDoor
