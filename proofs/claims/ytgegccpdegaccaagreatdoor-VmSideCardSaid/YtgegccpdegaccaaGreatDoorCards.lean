/-
  DERIVED. GIVEN WITH THE SEED: THE CARDS: each row of YtgegccpdegaccaaGreatDoorRows.lean that lists a variable, with what it lists TIED to the program's text (the seventh form; the later family's looks); each row that meets fmt, with fmt's text TOLD by the authors' own Lean function (tested against real Go, not proved from fmt's source: count such statements apart). THE CARD IS WHAT COUNTS. Prove the row's statement (the work); the ties are given (YtgegccpdegaccaaGreatDoorTie.lean); close each card by the builder's one call (the guide's Derived/Test/ToyasCard.lean, 'card_holds'). Laid BY PROGRAM, IN A SANDBOX (cutbox-door.mjs). By AI agents, Wed Nov 11 2026. No macro, syntax, notation, axiom, sorry.
-/
import Derived.Test.YtgegccpdegaccaaGreatDoorRows
import GoSem.ClaimSeven
namespace Go.Proofs.YtgegccpdegaccaaGreatDoor
namespace Rows

/-- THE TIED CARD OF 'spruelaw20.VmEnds'. -/
def vmEndsCard : Claim7 := { stood := { row := vmEndsRow, standIns := [], harness := (true, "6cf508748711fccae336bf6ba1591126a2ad9f33d38d6cc80da1962626499011"), looks := false }, kinds := [], alts := [], laidByText := true, laidKinds := [.data, .data, .data], laidTests := true, laidLooks := .later }
def VmEndsCardSaid : Prop := Claim7.holds Tryz.pinned (.plain (OpenSpec.ofChange vmEndsSpec)) vmEndsCard

/-- THE TIED CARD OF 'spruelaw20.VmSide'. -/
def vmSideCard : Claim7 := { stood := { row := vmSideRow, standIns := [], harness := (true, "6cf508748711fccae336bf6ba1591126a2ad9f33d38d6cc80da1962626499011"), looks := false }, kinds := [], alts := [], laidByText := true, laidKinds := [.data, .data, .data], laidTests := true, laidLooks := .later }
def VmSideCardSaid : Prop := Claim7.holds Tryz.pinned (.plain (OpenSpec.ofChange vmSideSpec)) vmSideCard

/-- THE TIED CARD OF 'spruelaw20.OptInlines'. -/
def optInlinesCard : Claim7 := { stood := { row := optInlinesRow, standIns := [], harness := (true, "6cf508748711fccae336bf6ba1591126a2ad9f33d38d6cc80da1962626499011"), looks := false }, kinds := [], alts := [], laidByText := true, laidKinds := [.data, .data, .data], laidTests := true, laidLooks := .later }
def OptInlinesCardSaid : Prop := Claim7.holds Tryz.pinned (.plain (OpenSpec.ofChange optInlinesSpec)) optInlinesCard

/-- THE SECOND FORM's CARD OF 'spruelaw20.VmEnds'. -/
def vmEndsUptoCard : Claim7 := { stood := { row := vmEndsUptoRow, standIns := [], harness := (true, "6cf508748711fccae336bf6ba1591126a2ad9f33d38d6cc80da1962626499011"), looks := false }, kinds := [], alts := [], laidByText := true, laidKinds := [.data, .data, .data], laidTests := true, laidLooks := .later }
def VmEndsUptoCardSaid : Prop := Claim7.holds Tryz.pinned (.plain (OpenSpec.upto vmEndsSpec)) vmEndsUptoCard

/-- THE SECOND FORM's CARD OF 'spruelaw20.VmSide'. -/
def vmSideUptoCard : Claim7 := { stood := { row := vmSideUptoRow, standIns := [], harness := (true, "6cf508748711fccae336bf6ba1591126a2ad9f33d38d6cc80da1962626499011"), looks := false }, kinds := [], alts := [], laidByText := true, laidKinds := [.data, .data, .data], laidTests := true, laidLooks := .later }
def VmSideUptoCardSaid : Prop := Claim7.holds Tryz.pinned (.plain (OpenSpec.upto vmSideSpec)) vmSideUptoCard

/-- THE SECOND FORM's CARD OF 'spruelaw20.OptInlines'. -/
def optInlinesUptoCard : Claim7 := { stood := { row := optInlinesUptoRow, standIns := [], harness := (true, "6cf508748711fccae336bf6ba1591126a2ad9f33d38d6cc80da1962626499011"), looks := false }, kinds := [], alts := [], laidByText := true, laidKinds := [.data, .data, .data], laidTests := true, laidLooks := .later }
def OptInlinesUptoCardSaid : Prop := Claim7.holds Tryz.pinned (.plain (OpenSpec.upto optInlinesSpec)) optInlinesUptoCard
end Rows
end Go.Proofs.YtgegccpdegaccaaGreatDoor
