/-
  DERIVED. GIVEN WITH THE SEED: THE CARDS: each row of YtfcgnheaggpccaaGreatDoorRows.lean that lists a variable, with what it lists TIED to the program's text (the seventh form; the later family's looks); each row that meets fmt, with fmt's text TOLD by the authors' own Lean function (tested against real Go, not proved from fmt's source: count such statements apart). THE CARD IS WHAT COUNTS. Prove the row's statement (the work); the ties are given (YtfcgnheaggpccaaGreatDoorTie.lean); close each card by the builder's one call (the guide's Derived/Test/ToyasCard.lean, 'card_holds'). Laid BY PROGRAM, IN A SANDBOX (cutbox-door.mjs). By AI agents, Wed Nov 11 2026. No macro, syntax, notation, axiom, sorry.
-/
import Derived.Test.YtfcgnheaggpccaaGreatDoorRows
import GoSem.ClaimSeven
namespace Go.Proofs.YtfcgnheaggpccaaGreatDoor
namespace Rows

/-- THE TIED CARD OF 'retortlaw19.ActCodes'. -/
def actCodesCard : Claim7 := { stood := { row := actCodesRow, standIns := [], harness := (true, "1581f8cfc22d4d6fc6ea04537ecbdd44e59e09a87fbed103edee98534568ab76"), looks := true }, kinds := [], alts := [], laidByText := true, laidKinds := [.data, .pinned], laidTests := true, laidLooks := .later }
def ActCodesCardSaid : Prop := Claim7.holds Tryz.pinned (.plain (OpenSpec.ofChange actCodesSpec)) actCodesCard

/-- THE TIED CARD OF 'retortlaw19.ActResults'. -/
def actResultsCard : Claim7 := { stood := { row := actResultsRow, standIns := [], harness := (true, "1581f8cfc22d4d6fc6ea04537ecbdd44e59e09a87fbed103edee98534568ab76"), looks := true }, kinds := [], alts := [], laidByText := true, laidKinds := [.data, .pinned], laidTests := true, laidLooks := .later }
def ActResultsCardSaid : Prop := Claim7.holds Tryz.pinned (.plain (OpenSpec.ofChange actResultsSpec)) actResultsCard

/-- THE TIED CARD OF 'retortlaw19.ActClasses'. -/
def actClassesCard : Claim7 := { stood := { row := actClassesRow, standIns := [], harness := (true, "1581f8cfc22d4d6fc6ea04537ecbdd44e59e09a87fbed103edee98534568ab76"), looks := true }, kinds := [], alts := [], laidByText := true, laidKinds := [.data, .pinned], laidTests := true, laidLooks := .later }
def ActClassesCardSaid : Prop := Claim7.holds Tryz.pinned (.plain (OpenSpec.ofChange actClassesSpec)) actClassesCard

/-- THE TIED CARD OF 'retortlaw19.ActBack'. -/
def actBackCard : Claim7 := { stood := { row := actBackRow, standIns := [], harness := (true, "1581f8cfc22d4d6fc6ea04537ecbdd44e59e09a87fbed103edee98534568ab76"), looks := true }, kinds := [], alts := [], laidByText := true, laidKinds := [.data, .pinned], laidTests := true, laidLooks := .later }
def ActBackCardSaid : Prop := Claim7.holds Tryz.pinned (.plain (OpenSpec.ofChange actBackSpec)) actBackCard

/-- THE TIED CARD OF 'retortlaw19.ActOther'. -/
def actOtherCard : Claim7 := { stood := { row := actOtherRow, standIns := [], harness := (true, "1581f8cfc22d4d6fc6ea04537ecbdd44e59e09a87fbed103edee98534568ab76"), looks := true }, kinds := [], alts := [], laidByText := true, laidKinds := [.data, .pinned], laidTests := true, laidLooks := .later }
def ActOtherCardSaid : Prop := Claim7.holds Tryz.pinned (.plain (OpenSpec.ofChange actOtherSpec)) actOtherCard

/-- THE TIED CARD OF 'retortlaw19.ActLong'. -/
def actLongCard : Claim7 := { stood := { row := actLongRow, standIns := [], harness := (true, "1581f8cfc22d4d6fc6ea04537ecbdd44e59e09a87fbed103edee98534568ab76"), looks := true }, kinds := [], alts := [], laidByText := true, laidKinds := [.data, .pinned], laidTests := true, laidLooks := .later }
def ActLongCardSaid : Prop := Claim7.holds Tryz.pinned (.plain (OpenSpec.ofChange actLongSpec)) actLongCard

/-- THE SECOND FORM's CARD OF 'retortlaw19.ActCodes'. -/
def actCodesUptoCard : Claim7 := { stood := { row := actCodesUptoRow, standIns := [], harness := (true, "1581f8cfc22d4d6fc6ea04537ecbdd44e59e09a87fbed103edee98534568ab76"), looks := true }, kinds := [], alts := [], laidByText := true, laidKinds := [.data, .pinned], laidTests := true, laidLooks := .later }
def ActCodesUptoCardSaid : Prop := Claim7.holds Tryz.pinned (.plain (OpenSpec.upto actCodesSpec)) actCodesUptoCard

/-- THE SECOND FORM's CARD OF 'retortlaw19.ActResults'. -/
def actResultsUptoCard : Claim7 := { stood := { row := actResultsUptoRow, standIns := [], harness := (true, "1581f8cfc22d4d6fc6ea04537ecbdd44e59e09a87fbed103edee98534568ab76"), looks := true }, kinds := [], alts := [], laidByText := true, laidKinds := [.data, .pinned], laidTests := true, laidLooks := .later }
def ActResultsUptoCardSaid : Prop := Claim7.holds Tryz.pinned (.plain (OpenSpec.upto actResultsSpec)) actResultsUptoCard

/-- THE SECOND FORM's CARD OF 'retortlaw19.ActClasses'. -/
def actClassesUptoCard : Claim7 := { stood := { row := actClassesUptoRow, standIns := [], harness := (true, "1581f8cfc22d4d6fc6ea04537ecbdd44e59e09a87fbed103edee98534568ab76"), looks := true }, kinds := [], alts := [], laidByText := true, laidKinds := [.data, .pinned], laidTests := true, laidLooks := .later }
def ActClassesUptoCardSaid : Prop := Claim7.holds Tryz.pinned (.plain (OpenSpec.upto actClassesSpec)) actClassesUptoCard

/-- THE SECOND FORM's CARD OF 'retortlaw19.ActBack'. -/
def actBackUptoCard : Claim7 := { stood := { row := actBackUptoRow, standIns := [], harness := (true, "1581f8cfc22d4d6fc6ea04537ecbdd44e59e09a87fbed103edee98534568ab76"), looks := true }, kinds := [], alts := [], laidByText := true, laidKinds := [.data, .pinned], laidTests := true, laidLooks := .later }
def ActBackUptoCardSaid : Prop := Claim7.holds Tryz.pinned (.plain (OpenSpec.upto actBackSpec)) actBackUptoCard

/-- THE SECOND FORM's CARD OF 'retortlaw19.ActOther'. -/
def actOtherUptoCard : Claim7 := { stood := { row := actOtherUptoRow, standIns := [], harness := (true, "1581f8cfc22d4d6fc6ea04537ecbdd44e59e09a87fbed103edee98534568ab76"), looks := true }, kinds := [], alts := [], laidByText := true, laidKinds := [.data, .pinned], laidTests := true, laidLooks := .later }
def ActOtherUptoCardSaid : Prop := Claim7.holds Tryz.pinned (.plain (OpenSpec.upto actOtherSpec)) actOtherUptoCard

/-- THE SECOND FORM's CARD OF 'retortlaw19.ActLong'. -/
def actLongUptoCard : Claim7 := { stood := { row := actLongUptoRow, standIns := [], harness := (true, "1581f8cfc22d4d6fc6ea04537ecbdd44e59e09a87fbed103edee98534568ab76"), looks := true }, kinds := [], alts := [], laidByText := true, laidKinds := [.data, .pinned], laidTests := true, laidLooks := .later }
def ActLongUptoCardSaid : Prop := Claim7.holds Tryz.pinned (.plain (OpenSpec.upto actLongSpec)) actLongUptoCard
end Rows
end Go.Proofs.YtfcgnheaggpccaaGreatDoor
