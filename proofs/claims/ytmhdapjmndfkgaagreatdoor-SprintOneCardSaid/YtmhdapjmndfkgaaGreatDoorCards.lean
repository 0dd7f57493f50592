/-
  DERIVED. GIVEN WITH THE SEED: THE CARDS: each row of YtmhdapjmndfkgaaGreatDoorRows.lean that lists a variable, with what it lists TIED to the program's text (the seventh form; the later family's looks); each row that meets fmt, with fmt's text TOLD by the authors' own Lean function (tested against real Go, not proved from fmt's source: count such statements apart). THE CARD IS WHAT COUNTS. Prove the row's statement (the work); the ties are given (YtmhdapjmndfkgaaGreatDoorTie.lean); close each card by the builder's one call (the guide's Derived/Test/ToyasCard.lean, 'card_holds'). Laid BY PROGRAM, IN A SANDBOX (cutbox-door.mjs). By AI agents, Wed Nov 11 2026. No macro, syntax, notation, axiom, sorry.
-/
import Derived.Test.YtmhdapjmndfkgaaGreatDoorRows
import GoSem.ClaimSeven
namespace Go.Proofs.YtmhdapjmndfkgaaGreatDoor
namespace Rows

/-- THE TIED CARD OF 'ecdysislaw46.SampleValid'. -/
def sampleValidCard : Claim7 := { stood := { row := sampleValidRow, standIns := [], harness := (true, "90aabc15918b621c68d08d1a13075f49072406ead9496a0619b921a5c1251a9a"), looks := false }, kinds := [], alts := [], laidByText := true, laidKinds := [.data, .pinned], laidTests := true, laidLooks := .later }
def SampleValidCardSaid : Prop := Claim7.holds Tryz.pinned (.plain (OpenSpec.ofChange sampleValidSpec)) sampleValidCard

/-- THE TIED CARD OF 'ecdysislaw17.SprintTexts'. -/
def sprintTextsCard : Claim7 := { stood := { row := sprintTextsRow, standIns := [], harness := (true, "90aabc15918b621c68d08d1a13075f49072406ead9496a0619b921a5c1251a9a"), looks := false }, kinds := [], alts := [], laidByText := true, laidKinds := [.data, .data, .data], laidTests := true, laidLooks := .later }
def SprintTextsCardSaid : Prop := Claim7.holds Tryz.pinned (.plain (OpenSpec.ofChange sprintTextsSpec)) sprintTextsCard

/-- THE TIED CARD OF 'ecdysislaw17.SprintOne'. -/
def sprintOneCard : Claim7 := { stood := { row := sprintOneRow, standIns := [], harness := (true, "90aabc15918b621c68d08d1a13075f49072406ead9496a0619b921a5c1251a9a"), looks := false }, kinds := [], alts := [], laidByText := true, laidKinds := [.data, .data, .data], laidTests := true, laidLooks := .later }
def SprintOneCardSaid : Prop := Claim7.holds Tryz.pinned (.plain (OpenSpec.ofChange sprintOneSpec)) sprintOneCard

/-- THE TIED CARD OF 'ecdysislaw17.SprintParts'. -/
def sprintPartsCard : Claim7 := { stood := { row := sprintPartsRow, standIns := [], harness := (true, "90aabc15918b621c68d08d1a13075f49072406ead9496a0619b921a5c1251a9a"), looks := false }, kinds := [], alts := [], laidByText := true, laidKinds := [.data, .data, .data], laidTests := true, laidLooks := .later }
def SprintPartsCardSaid : Prop := Claim7.holds Tryz.pinned (.plain (OpenSpec.ofChange sprintPartsSpec)) sprintPartsCard

/-- THE SECOND FORM's CARD OF 'ecdysislaw46.SampleValid'. -/
def sampleValidUptoCard : Claim7 := { stood := { row := sampleValidUptoRow, standIns := [], harness := (true, "90aabc15918b621c68d08d1a13075f49072406ead9496a0619b921a5c1251a9a"), looks := false }, kinds := [], alts := [], laidByText := true, laidKinds := [.data, .pinned], laidTests := true, laidLooks := .later }
def SampleValidUptoCardSaid : Prop := Claim7.holds Tryz.pinned (.plain (OpenSpec.upto sampleValidSpec)) sampleValidUptoCard

/-- THE SECOND FORM's CARD OF 'ecdysislaw17.SprintTexts'. -/
def sprintTextsUptoCard : Claim7 := { stood := { row := sprintTextsUptoRow, standIns := [], harness := (true, "90aabc15918b621c68d08d1a13075f49072406ead9496a0619b921a5c1251a9a"), looks := false }, kinds := [], alts := [], laidByText := true, laidKinds := [.data, .data, .data], laidTests := true, laidLooks := .later }
def SprintTextsUptoCardSaid : Prop := Claim7.holds Tryz.pinned (.plain (OpenSpec.upto sprintTextsSpec)) sprintTextsUptoCard

/-- THE SECOND FORM's CARD OF 'ecdysislaw17.SprintOne'. -/
def sprintOneUptoCard : Claim7 := { stood := { row := sprintOneUptoRow, standIns := [], harness := (true, "90aabc15918b621c68d08d1a13075f49072406ead9496a0619b921a5c1251a9a"), looks := false }, kinds := [], alts := [], laidByText := true, laidKinds := [.data, .data, .data], laidTests := true, laidLooks := .later }
def SprintOneUptoCardSaid : Prop := Claim7.holds Tryz.pinned (.plain (OpenSpec.upto sprintOneSpec)) sprintOneUptoCard

/-- THE SECOND FORM's CARD OF 'ecdysislaw17.SprintParts'. -/
def sprintPartsUptoCard : Claim7 := { stood := { row := sprintPartsUptoRow, standIns := [], harness := (true, "90aabc15918b621c68d08d1a13075f49072406ead9496a0619b921a5c1251a9a"), looks := false }, kinds := [], alts := [], laidByText := true, laidKinds := [.data, .data, .data], laidTests := true, laidLooks := .later }
def SprintPartsUptoCardSaid : Prop := Claim7.holds Tryz.pinned (.plain (OpenSpec.upto sprintPartsSpec)) sprintPartsUptoCard
end Rows
end Go.Proofs.YtmhdapjmndfkgaaGreatDoor
