/-
  DERIVED. GIVEN WITH THE SEED: THE CARDS: each row of YticmmpiffekbiaaDoorRows.lean that lists a variable, with what it lists TIED to the program's text (the seventh form; the later family's looks); each row that meets fmt, with fmt's text TOLD by the authors' own Lean function (tested against real Go, not proved from fmt's source: count such statements apart). THE CARD IS WHAT COUNTS. Prove the row's statement (the work); the ties are given (YticmmpiffekbiaaDoorTie.lean); close each card by the builder's one call (the guide's Derived/Test/ToyasCard.lean, 'card_holds'). Laid BY PROGRAM, IN A SANDBOX (cutbox-door.mjs). By AI agents, Wed Nov 11 2026. No macro, syntax, notation, axiom, sorry.
-/
import Derived.Test.YticmmpiffekbiaaDoorRows
import GoSem.ClaimSeven
namespace Go.Proofs.YticmmpiffekbiaaDoor
namespace Rows

/-- THE TIED CARD OF 'ecdysislaw13.ConvConv'. -/
def convConvCard : Claim7 := { stood := { row := convConvRow, standIns := [], harness := (true, "6eda8312dcb39a1e6e1d66e3dff69ff38c3f313dfdf90ba8c674de9812d7dc0d"), looks := false }, kinds := [], alts := [], laidByText := true, laidKinds := [.data, .data, .data], laidTests := true, laidLooks := .later }
def ConvConvCardSaid : Prop := Claim7.holds Tryd.pinned (.plain (OpenSpec.ofChange convConvSpec)) convConvCard

/-- THE TIED CARD OF 'ecdysislaw13.ConvWays'. -/
def convWaysCard : Claim7 := { stood := { row := convWaysRow, standIns := [], harness := (true, "6eda8312dcb39a1e6e1d66e3dff69ff38c3f313dfdf90ba8c674de9812d7dc0d"), looks := false }, kinds := [], alts := [], laidByText := true, laidKinds := [.data, .data, .data], laidTests := true, laidLooks := .later }
def ConvWaysCardSaid : Prop := Claim7.holds Tryd.pinned (.plain (OpenSpec.ofChange convWaysSpec)) convWaysCard

/-- THE TIED CARD OF 'ecdysislaw13.ConvReads'. -/
def convReadsCard : Claim7 := { stood := { row := convReadsRow, standIns := [], harness := (true, "6eda8312dcb39a1e6e1d66e3dff69ff38c3f313dfdf90ba8c674de9812d7dc0d"), looks := false }, kinds := [], alts := [], laidByText := true, laidKinds := [.data, .data, .data], laidTests := true, laidLooks := .later }
def ConvReadsCardSaid : Prop := Claim7.holds Tryd.pinned (.plain (OpenSpec.ofChange convReadsSpec)) convReadsCard

/-- THE TIED CARD OF 'ecdysislaw13.ConvTexts'. -/
def convTextsCard : Claim7 := { stood := { row := convTextsRow, standIns := [], harness := (true, "6eda8312dcb39a1e6e1d66e3dff69ff38c3f313dfdf90ba8c674de9812d7dc0d"), looks := false }, kinds := [], alts := [], laidByText := true, laidKinds := [.data, .data, .data], laidTests := true, laidLooks := .later }
def ConvTextsCardSaid : Prop := Claim7.holds Tryd.pinned (.plain (OpenSpec.ofChange convTextsSpec)) convTextsCard

/-- THE TIED CARD OF 'ecdysislaw14.FieldChecks'. -/
def fieldChecksCard : Claim7 := { stood := { row := fieldChecksRow, standIns := [], harness := (true, "6eda8312dcb39a1e6e1d66e3dff69ff38c3f313dfdf90ba8c674de9812d7dc0d"), looks := false }, kinds := [], alts := [], laidByText := true, laidKinds := [.data, .data, .data], laidTests := true, laidLooks := .later }
def FieldChecksCardSaid : Prop := Claim7.holds Tryd.pinned (.plain (OpenSpec.ofChange fieldChecksSpec)) fieldChecksCard

/-- THE TIED CARD OF 'ecdysislaw14.FieldTexts'. -/
def fieldTextsCard : Claim7 := { stood := { row := fieldTextsRow, standIns := [], harness := (true, "6eda8312dcb39a1e6e1d66e3dff69ff38c3f313dfdf90ba8c674de9812d7dc0d"), looks := false }, kinds := [], alts := [], laidByText := true, laidKinds := [.data, .data, .data], laidTests := true, laidLooks := .later }
def FieldTextsCardSaid : Prop := Claim7.holds Tryd.pinned (.plain (OpenSpec.ofChange fieldTextsSpec)) fieldTextsCard

/-- THE TIED CARD OF 'ecdysislaw14.FieldOnes'. -/
def fieldOnesCard : Claim7 := { stood := { row := fieldOnesRow, standIns := [], harness := (true, "6eda8312dcb39a1e6e1d66e3dff69ff38c3f313dfdf90ba8c674de9812d7dc0d"), looks := false }, kinds := [], alts := [], laidByText := true, laidKinds := [.data, .data, .data], laidTests := true, laidLooks := .later }
def FieldOnesCardSaid : Prop := Claim7.holds Tryd.pinned (.plain (OpenSpec.ofChange fieldOnesSpec)) fieldOnesCard

/-- THE SECOND FORM's CARD OF 'ecdysislaw13.ConvConv'. -/
def convConvUptoCard : Claim7 := { stood := { row := convConvUptoRow, standIns := [], harness := (true, "6eda8312dcb39a1e6e1d66e3dff69ff38c3f313dfdf90ba8c674de9812d7dc0d"), looks := false }, kinds := [], alts := [], laidByText := true, laidKinds := [.data, .data, .data], laidTests := true, laidLooks := .later }
def ConvConvUptoCardSaid : Prop := Claim7.holds Tryd.pinned (.plain (OpenSpec.upto convConvSpec)) convConvUptoCard

/-- THE SECOND FORM's CARD OF 'ecdysislaw13.ConvWays'. -/
def convWaysUptoCard : Claim7 := { stood := { row := convWaysUptoRow, standIns := [], harness := (true, "6eda8312dcb39a1e6e1d66e3dff69ff38c3f313dfdf90ba8c674de9812d7dc0d"), looks := false }, kinds := [], alts := [], laidByText := true, laidKinds := [.data, .data, .data], laidTests := true, laidLooks := .later }
def ConvWaysUptoCardSaid : Prop := Claim7.holds Tryd.pinned (.plain (OpenSpec.upto convWaysSpec)) convWaysUptoCard

/-- THE SECOND FORM's CARD OF 'ecdysislaw13.ConvReads'. -/
def convReadsUptoCard : Claim7 := { stood := { row := convReadsUptoRow, standIns := [], harness := (true, "6eda8312dcb39a1e6e1d66e3dff69ff38c3f313dfdf90ba8c674de9812d7dc0d"), looks := false }, kinds := [], alts := [], laidByText := true, laidKinds := [.data, .data, .data], laidTests := true, laidLooks := .later }
def ConvReadsUptoCardSaid : Prop := Claim7.holds Tryd.pinned (.plain (OpenSpec.upto convReadsSpec)) convReadsUptoCard

/-- THE SECOND FORM's CARD OF 'ecdysislaw13.ConvTexts'. -/
def convTextsUptoCard : Claim7 := { stood := { row := convTextsUptoRow, standIns := [], harness := (true, "6eda8312dcb39a1e6e1d66e3dff69ff38c3f313dfdf90ba8c674de9812d7dc0d"), looks := false }, kinds := [], alts := [], laidByText := true, laidKinds := [.data, .data, .data], laidTests := true, laidLooks := .later }
def ConvTextsUptoCardSaid : Prop := Claim7.holds Tryd.pinned (.plain (OpenSpec.upto convTextsSpec)) convTextsUptoCard

/-- THE SECOND FORM's CARD OF 'ecdysislaw14.FieldChecks'. -/
def fieldChecksUptoCard : Claim7 := { stood := { row := fieldChecksUptoRow, standIns := [], harness := (true, "6eda8312dcb39a1e6e1d66e3dff69ff38c3f313dfdf90ba8c674de9812d7dc0d"), looks := false }, kinds := [], alts := [], laidByText := true, laidKinds := [.data, .data, .data], laidTests := true, laidLooks := .later }
def FieldChecksUptoCardSaid : Prop := Claim7.holds Tryd.pinned (.plain (OpenSpec.upto fieldChecksSpec)) fieldChecksUptoCard

/-- THE SECOND FORM's CARD OF 'ecdysislaw14.FieldTexts'. -/
def fieldTextsUptoCard : Claim7 := { stood := { row := fieldTextsUptoRow, standIns := [], harness := (true, "6eda8312dcb39a1e6e1d66e3dff69ff38c3f313dfdf90ba8c674de9812d7dc0d"), looks := false }, kinds := [], alts := [], laidByText := true, laidKinds := [.data, .data, .data], laidTests := true, laidLooks := .later }
def FieldTextsUptoCardSaid : Prop := Claim7.holds Tryd.pinned (.plain (OpenSpec.upto fieldTextsSpec)) fieldTextsUptoCard

/-- THE SECOND FORM's CARD OF 'ecdysislaw14.FieldOnes'. -/
def fieldOnesUptoCard : Claim7 := { stood := { row := fieldOnesUptoRow, standIns := [], harness := (true, "6eda8312dcb39a1e6e1d66e3dff69ff38c3f313dfdf90ba8c674de9812d7dc0d"), looks := false }, kinds := [], alts := [], laidByText := true, laidKinds := [.data, .data, .data], laidTests := true, laidLooks := .later }
def FieldOnesUptoCardSaid : Prop := Claim7.holds Tryd.pinned (.plain (OpenSpec.upto fieldOnesSpec)) fieldOnesUptoCard
end Rows
end Go.Proofs.YticmmpiffekbiaaDoor
