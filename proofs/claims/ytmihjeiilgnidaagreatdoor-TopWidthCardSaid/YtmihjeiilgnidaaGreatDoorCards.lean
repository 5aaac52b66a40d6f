/-
  DERIVED. GIVEN WITH THE SEED: THE CARDS: each row of YtmihjeiilgnidaaGreatDoorRows.lean that lists a variable, with what it lists TIED to the program's text (the seventh form; the later family's looks); each row that meets fmt, with fmt's text TOLD by the authors' own Lean function (tested against real Go, not proved from fmt's source: count such statements apart). THE CARD IS WHAT COUNTS. Prove the row's statement (the work); the ties are given (YtmihjeiilgnidaaGreatDoorTie.lean); close each card by the builder's one call (the guide's Derived/Test/ToyasCard.lean, 'card_holds'). Laid BY PROGRAM, IN A SANDBOX (cutbox-door.mjs). By AI agents, Wed Nov 11 2026. No macro, syntax, notation, axiom, sorry.
-/
import Derived.Test.YtmihjeiilgnidaaGreatDoorRows
import GoSem.ClaimSeven
namespace Go.Proofs.YtmihjeiilgnidaaGreatDoor
namespace Rows

/-- THE TIED CARD OF 'spruetop.TopBig'. -/
def topBigCard : Claim7 := { stood := { row := topBigRow, standIns := [], harness := (true, "78342efe662d23a22a450b5bf2d406263b8d76009ef7bdc254c235f60c9db89f"), looks := false }, kinds := [], alts := [], laidByText := true, laidKinds := [.data, .data, .data, .data, .listed, .data, .pinned], laidTests := true, laidLooks := .later }
def TopBigCardSaid : Prop := Claim7.holds Tryz.pinned (.plain (OpenSpec.ofChange topBigSpec)) topBigCard

/-- THE TIED CARD OF 'spruelaw21.MoldRefuses'. -/
def moldRefusesCard : Claim7 := { stood := { row := moldRefusesRow, standIns := [], harness := (true, "78342efe662d23a22a450b5bf2d406263b8d76009ef7bdc254c235f60c9db89f"), looks := false }, kinds := [], alts := [], laidByText := true, laidKinds := [.data, .data, .data, .data, .listed, .data, .pinned], laidTests := true, laidLooks := .later }
def MoldRefusesCardSaid : Prop := Claim7.holds Tryz.pinned (.plain (OpenSpec.ofChange moldRefusesSpec)) moldRefusesCard

/-- THE TIED CARD OF 'spruetop.TopFaults'. -/
def topFaultsCard : Claim7 := { stood := { row := topFaultsRow, standIns := [], harness := (true, "78342efe662d23a22a450b5bf2d406263b8d76009ef7bdc254c235f60c9db89f"), looks := false }, kinds := [], alts := [], laidByText := true, laidKinds := [.data, .data, .data, .data, .listed, .data, .pinned], laidTests := true, laidLooks := .later }
def TopFaultsCardSaid : Prop := Claim7.holds Tryz.pinned (.plain (OpenSpec.ofChange topFaultsSpec)) topFaultsCard

/-- THE TIED CARD OF 'spruelaw21.MoldPaths'. -/
def moldPathsCard : Claim7 := { stood := { row := moldPathsRow, standIns := [], harness := (true, "78342efe662d23a22a450b5bf2d406263b8d76009ef7bdc254c235f60c9db89f"), looks := false }, kinds := [], alts := [], laidByText := true, laidKinds := [.data, .data, .data, .data, .listed, .data, .pinned], laidTests := true, laidLooks := .later }
def MoldPathsCardSaid : Prop := Claim7.holds Tryz.pinned (.plain (OpenSpec.ofChange moldPathsSpec)) moldPathsCard

/-- THE TIED CARD OF 'spruelaw21.MoldGiven'. -/
def moldGivenCard : Claim7 := { stood := { row := moldGivenRow, standIns := [], harness := (true, "78342efe662d23a22a450b5bf2d406263b8d76009ef7bdc254c235f60c9db89f"), looks := false }, kinds := [], alts := [], laidByText := true, laidKinds := [.data, .data, .data, .data, .listed, .data, .pinned], laidTests := true, laidLooks := .later }
def MoldGivenCardSaid : Prop := Claim7.holds Tryz.pinned (.plain (OpenSpec.ofChange moldGivenSpec)) moldGivenCard

/-- THE TIED CARD OF 'spruetop.TopWidth'. -/
def topWidthCard : Claim7 := { stood := { row := topWidthRow, standIns := [], harness := (true, "78342efe662d23a22a450b5bf2d406263b8d76009ef7bdc254c235f60c9db89f"), looks := false }, kinds := [], alts := [], laidByText := true, laidKinds := [.data, .data, .data, .data, .listed, .data, .pinned], laidTests := true, laidLooks := .later }
def TopWidthCardSaid : Prop := Claim7.holds Tryz.pinned (.plain (OpenSpec.ofChange topWidthSpec)) topWidthCard

/-- THE SECOND FORM's CARD OF 'spruetop.TopBig'. -/
def topBigUptoCard : Claim7 := { stood := { row := topBigUptoRow, standIns := [], harness := (true, "78342efe662d23a22a450b5bf2d406263b8d76009ef7bdc254c235f60c9db89f"), looks := false }, kinds := [], alts := [], laidByText := true, laidKinds := [.data, .data, .data, .data, .listed, .data, .pinned], laidTests := true, laidLooks := .later }
def TopBigUptoCardSaid : Prop := Claim7.holds Tryz.pinned (.plain (OpenSpec.upto topBigSpec)) topBigUptoCard

/-- THE SECOND FORM's CARD OF 'spruelaw21.MoldRefuses'. -/
def moldRefusesUptoCard : Claim7 := { stood := { row := moldRefusesUptoRow, standIns := [], harness := (true, "78342efe662d23a22a450b5bf2d406263b8d76009ef7bdc254c235f60c9db89f"), looks := false }, kinds := [], alts := [], laidByText := true, laidKinds := [.data, .data, .data, .data, .listed, .data, .pinned], laidTests := true, laidLooks := .later }
def MoldRefusesUptoCardSaid : Prop := Claim7.holds Tryz.pinned (.plain (OpenSpec.upto moldRefusesSpec)) moldRefusesUptoCard

/-- THE SECOND FORM's CARD OF 'spruetop.TopFaults'. -/
def topFaultsUptoCard : Claim7 := { stood := { row := topFaultsUptoRow, standIns := [], harness := (true, "78342efe662d23a22a450b5bf2d406263b8d76009ef7bdc254c235f60c9db89f"), looks := false }, kinds := [], alts := [], laidByText := true, laidKinds := [.data, .data, .data, .data, .listed, .data, .pinned], laidTests := true, laidLooks := .later }
def TopFaultsUptoCardSaid : Prop := Claim7.holds Tryz.pinned (.plain (OpenSpec.upto topFaultsSpec)) topFaultsUptoCard

/-- THE SECOND FORM's CARD OF 'spruelaw21.MoldPaths'. -/
def moldPathsUptoCard : Claim7 := { stood := { row := moldPathsUptoRow, standIns := [], harness := (true, "78342efe662d23a22a450b5bf2d406263b8d76009ef7bdc254c235f60c9db89f"), looks := false }, kinds := [], alts := [], laidByText := true, laidKinds := [.data, .data, .data, .data, .listed, .data, .pinned], laidTests := true, laidLooks := .later }
def MoldPathsUptoCardSaid : Prop := Claim7.holds Tryz.pinned (.plain (OpenSpec.upto moldPathsSpec)) moldPathsUptoCard

/-- THE SECOND FORM's CARD OF 'spruelaw21.MoldGiven'. -/
def moldGivenUptoCard : Claim7 := { stood := { row := moldGivenUptoRow, standIns := [], harness := (true, "78342efe662d23a22a450b5bf2d406263b8d76009ef7bdc254c235f60c9db89f"), looks := false }, kinds := [], alts := [], laidByText := true, laidKinds := [.data, .data, .data, .data, .listed, .data, .pinned], laidTests := true, laidLooks := .later }
def MoldGivenUptoCardSaid : Prop := Claim7.holds Tryz.pinned (.plain (OpenSpec.upto moldGivenSpec)) moldGivenUptoCard

/-- THE SECOND FORM's CARD OF 'spruetop.TopWidth'. -/
def topWidthUptoCard : Claim7 := { stood := { row := topWidthUptoRow, standIns := [], harness := (true, "78342efe662d23a22a450b5bf2d406263b8d76009ef7bdc254c235f60c9db89f"), looks := false }, kinds := [], alts := [], laidByText := true, laidKinds := [.data, .data, .data, .data, .listed, .data, .pinned], laidTests := true, laidLooks := .later }
def TopWidthUptoCardSaid : Prop := Claim7.holds Tryz.pinned (.plain (OpenSpec.upto topWidthSpec)) topWidthUptoCard
end Rows
end Go.Proofs.YtmihjeiilgnidaaGreatDoor
