/-
  DERIVED. GIVEN WITH THE SEED: THE CARDS: each row of YtdodihnehppnmaaGreatDoorRows.lean that lists a variable, with what it lists TIED to the program's text (the seventh form; the later family's looks); each row that meets fmt, with fmt's text TOLD by the authors' own Lean function (tested against real Go, not proved from fmt's source: count such statements apart). THE CARD IS WHAT COUNTS. Prove the row's statement (the work); the ties are given (YtdodihnehppnmaaGreatDoorTie.lean); close each card by the builder's one call (the guide's Derived/Test/ToyasCard.lean, 'card_holds'). Laid BY PROGRAM, IN A SANDBOX (cutbox-door.mjs). By AI agents, Wed Nov 11 2026. No macro, syntax, notation, axiom, sorry.
-/
import Derived.Test.YtdodihnehppnmaaGreatDoorRows
import GoSem.ClaimSeven
namespace Go.Proofs.YtdodihnehppnmaaGreatDoor
namespace Rows

/-- THE TIED CARD OF 'stelelaw42.ExportContent'. -/
def exportContentCard : Claim7 := { stood := { row := exportContentRow, standIns := [], harness := (true, "6c4ba1800063a52c00f67c3618e70609916c4c4cdd1076bae444e25853287341"), looks := true }, kinds := [], alts := [], laidByText := true, laidKinds := [.data, .data, .data, .data, .sentinel, .sentinel, .pinned], laidTests := true, laidLooks := .later }
def ExportContentCardSaid : Prop := Claim7.holds Tryz.pinned (.plain (OpenSpec.ofChange exportContentSpec)) exportContentCard

/-- THE TIED CARD OF 'stelelaw42.ExportTree'. -/
def exportTreeCard : Claim7 := { stood := { row := exportTreeRow, standIns := [], harness := (true, "6c4ba1800063a52c00f67c3618e70609916c4c4cdd1076bae444e25853287341"), looks := true }, kinds := [], alts := [], laidByText := true, laidKinds := [.data, .data, .data, .data, .sentinel, .sentinel, .pinned], laidTests := true, laidLooks := .later }
def ExportTreeCardSaid : Prop := Claim7.holds Tryz.pinned (.plain (OpenSpec.ofChange exportTreeSpec)) exportTreeCard

/-- THE TIED CARD OF 'stelelaw42.ExportImport'. -/
def exportImportCard : Claim7 := { stood := { row := exportImportRow, standIns := [], harness := (true, "6c4ba1800063a52c00f67c3618e70609916c4c4cdd1076bae444e25853287341"), looks := true }, kinds := [], alts := [], laidByText := true, laidKinds := [.data, .data, .data, .data, .sentinel, .sentinel, .pinned], laidTests := true, laidLooks := .later }
def ExportImportCardSaid : Prop := Claim7.holds Tryz.pinned (.plain (OpenSpec.ofChange exportImportSpec)) exportImportCard

/-- THE TIED CARD OF 'stelelaw42.ExportAsOf'. -/
def exportAsOfCard : Claim7 := { stood := { row := exportAsOfRow, standIns := [], harness := (true, "6c4ba1800063a52c00f67c3618e70609916c4c4cdd1076bae444e25853287341"), looks := true }, kinds := [], alts := [], laidByText := true, laidKinds := [.data, .data, .data, .data, .sentinel, .sentinel, .pinned], laidTests := true, laidLooks := .later }
def ExportAsOfCardSaid : Prop := Claim7.holds Tryz.pinned (.plain (OpenSpec.ofChange exportAsOfSpec)) exportAsOfCard

/-- THE TIED CARD OF 'stelelaw42.ExportResults'. -/
def exportResultsCard : Claim7 := { stood := { row := exportResultsRow, standIns := [], harness := (true, "6c4ba1800063a52c00f67c3618e70609916c4c4cdd1076bae444e25853287341"), looks := true }, kinds := [], alts := [], laidByText := true, laidKinds := [.data, .data, .data, .data, .sentinel, .sentinel, .pinned], laidTests := true, laidLooks := .later }
def ExportResultsCardSaid : Prop := Claim7.holds Tryz.pinned (.plain (OpenSpec.ofChange exportResultsSpec)) exportResultsCard

/-- THE TIED CARD OF 'stelelaw42.ExportPrefix'. -/
def exportPrefixCard : Claim7 := { stood := { row := exportPrefixRow, standIns := [], harness := (true, "6c4ba1800063a52c00f67c3618e70609916c4c4cdd1076bae444e25853287341"), looks := true }, kinds := [], alts := [], laidByText := true, laidKinds := [.data, .data, .data, .data, .sentinel, .sentinel, .pinned], laidTests := true, laidLooks := .later }
def ExportPrefixCardSaid : Prop := Claim7.holds Tryz.pinned (.plain (OpenSpec.ofChange exportPrefixSpec)) exportPrefixCard

/-- THE TIED CARD OF 'stelelaw42.ExportEquality'. -/
def exportEqualityCard : Claim7 := { stood := { row := exportEqualityRow, standIns := [], harness := (true, "6c4ba1800063a52c00f67c3618e70609916c4c4cdd1076bae444e25853287341"), looks := true }, kinds := [], alts := [], laidByText := true, laidKinds := [.data, .data, .data, .data, .sentinel, .sentinel, .pinned], laidTests := true, laidLooks := .later }
def ExportEqualityCardSaid : Prop := Claim7.holds Tryz.pinned (.plain (OpenSpec.ofChange exportEqualitySpec)) exportEqualityCard

/-- THE TIED CARD OF 'stelelaw42.ExportRoundTrip'. -/
def exportRoundTripCard : Claim7 := { stood := { row := exportRoundTripRow, standIns := [], harness := (true, "6c4ba1800063a52c00f67c3618e70609916c4c4cdd1076bae444e25853287341"), looks := true }, kinds := [], alts := [], laidByText := true, laidKinds := [.data, .data, .data, .data, .sentinel, .sentinel, .pinned], laidTests := true, laidLooks := .later }
def ExportRoundTripCardSaid : Prop := Claim7.holds Tryz.pinned (.plain (OpenSpec.ofChange exportRoundTripSpec)) exportRoundTripCard

/-- THE SECOND FORM's CARD OF 'stelelaw42.ExportContent'. -/
def exportContentUptoCard : Claim7 := { stood := { row := exportContentUptoRow, standIns := [], harness := (true, "6c4ba1800063a52c00f67c3618e70609916c4c4cdd1076bae444e25853287341"), looks := true }, kinds := [], alts := [], laidByText := true, laidKinds := [.data, .data, .data, .data, .sentinel, .sentinel, .pinned], laidTests := true, laidLooks := .later }
def ExportContentUptoCardSaid : Prop := Claim7.holds Tryz.pinned (.plain (OpenSpec.upto exportContentSpec)) exportContentUptoCard

/-- THE SECOND FORM's CARD OF 'stelelaw42.ExportTree'. -/
def exportTreeUptoCard : Claim7 := { stood := { row := exportTreeUptoRow, standIns := [], harness := (true, "6c4ba1800063a52c00f67c3618e70609916c4c4cdd1076bae444e25853287341"), looks := true }, kinds := [], alts := [], laidByText := true, laidKinds := [.data, .data, .data, .data, .sentinel, .sentinel, .pinned], laidTests := true, laidLooks := .later }
def ExportTreeUptoCardSaid : Prop := Claim7.holds Tryz.pinned (.plain (OpenSpec.upto exportTreeSpec)) exportTreeUptoCard

/-- THE SECOND FORM's CARD OF 'stelelaw42.ExportImport'. -/
def exportImportUptoCard : Claim7 := { stood := { row := exportImportUptoRow, standIns := [], harness := (true, "6c4ba1800063a52c00f67c3618e70609916c4c4cdd1076bae444e25853287341"), looks := true }, kinds := [], alts := [], laidByText := true, laidKinds := [.data, .data, .data, .data, .sentinel, .sentinel, .pinned], laidTests := true, laidLooks := .later }
def ExportImportUptoCardSaid : Prop := Claim7.holds Tryz.pinned (.plain (OpenSpec.upto exportImportSpec)) exportImportUptoCard

/-- THE SECOND FORM's CARD OF 'stelelaw42.ExportAsOf'. -/
def exportAsOfUptoCard : Claim7 := { stood := { row := exportAsOfUptoRow, standIns := [], harness := (true, "6c4ba1800063a52c00f67c3618e70609916c4c4cdd1076bae444e25853287341"), looks := true }, kinds := [], alts := [], laidByText := true, laidKinds := [.data, .data, .data, .data, .sentinel, .sentinel, .pinned], laidTests := true, laidLooks := .later }
def ExportAsOfUptoCardSaid : Prop := Claim7.holds Tryz.pinned (.plain (OpenSpec.upto exportAsOfSpec)) exportAsOfUptoCard

/-- THE SECOND FORM's CARD OF 'stelelaw42.ExportResults'. -/
def exportResultsUptoCard : Claim7 := { stood := { row := exportResultsUptoRow, standIns := [], harness := (true, "6c4ba1800063a52c00f67c3618e70609916c4c4cdd1076bae444e25853287341"), looks := true }, kinds := [], alts := [], laidByText := true, laidKinds := [.data, .data, .data, .data, .sentinel, .sentinel, .pinned], laidTests := true, laidLooks := .later }
def ExportResultsUptoCardSaid : Prop := Claim7.holds Tryz.pinned (.plain (OpenSpec.upto exportResultsSpec)) exportResultsUptoCard

/-- THE SECOND FORM's CARD OF 'stelelaw42.ExportPrefix'. -/
def exportPrefixUptoCard : Claim7 := { stood := { row := exportPrefixUptoRow, standIns := [], harness := (true, "6c4ba1800063a52c00f67c3618e70609916c4c4cdd1076bae444e25853287341"), looks := true }, kinds := [], alts := [], laidByText := true, laidKinds := [.data, .data, .data, .data, .sentinel, .sentinel, .pinned], laidTests := true, laidLooks := .later }
def ExportPrefixUptoCardSaid : Prop := Claim7.holds Tryz.pinned (.plain (OpenSpec.upto exportPrefixSpec)) exportPrefixUptoCard

/-- THE SECOND FORM's CARD OF 'stelelaw42.ExportEquality'. -/
def exportEqualityUptoCard : Claim7 := { stood := { row := exportEqualityUptoRow, standIns := [], harness := (true, "6c4ba1800063a52c00f67c3618e70609916c4c4cdd1076bae444e25853287341"), looks := true }, kinds := [], alts := [], laidByText := true, laidKinds := [.data, .data, .data, .data, .sentinel, .sentinel, .pinned], laidTests := true, laidLooks := .later }
def ExportEqualityUptoCardSaid : Prop := Claim7.holds Tryz.pinned (.plain (OpenSpec.upto exportEqualitySpec)) exportEqualityUptoCard

/-- THE SECOND FORM's CARD OF 'stelelaw42.ExportRoundTrip'. -/
def exportRoundTripUptoCard : Claim7 := { stood := { row := exportRoundTripUptoRow, standIns := [], harness := (true, "6c4ba1800063a52c00f67c3618e70609916c4c4cdd1076bae444e25853287341"), looks := true }, kinds := [], alts := [], laidByText := true, laidKinds := [.data, .data, .data, .data, .sentinel, .sentinel, .pinned], laidTests := true, laidLooks := .later }
def ExportRoundTripUptoCardSaid : Prop := Claim7.holds Tryz.pinned (.plain (OpenSpec.upto exportRoundTripSpec)) exportRoundTripUptoCard
end Rows
end Go.Proofs.YtdodihnehppnmaaGreatDoor
