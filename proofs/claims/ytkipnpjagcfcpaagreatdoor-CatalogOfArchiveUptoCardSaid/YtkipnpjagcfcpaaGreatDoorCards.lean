/-
  DERIVED. GIVEN WITH THE SEED: THE CARDS: each row of YtkipnpjagcfcpaaGreatDoorRows.lean that lists a variable, with what it lists TIED to the program's text (the seventh form; the later family's looks); each row that meets fmt, with fmt's text TOLD by the authors' own Lean function (tested against real Go, not proved from fmt's source: count such statements apart). THE CARD IS WHAT COUNTS. Prove the row's statement (the work); the ties are given (YtkipnpjagcfcpaaGreatDoorTie.lean); close each card by the builder's one call (the guide's Derived/Test/ToyasCard.lean, 'card_holds'). Laid BY PROGRAM, IN A SANDBOX (cutbox-door.mjs). By AI agents, Wed Nov 11 2026. No macro, syntax, notation, axiom, sorry.
-/
import Derived.Test.YtkipnpjagcfcpaaGreatDoorRows
import GoSem.ClaimSeven
namespace Go.Proofs.YtkipnpjagcfcpaaGreatDoor
namespace Rows

/-- THE TIED CARD OF 'stelelaw42.ExportResults'. -/
def exportResultsCard : Claim7 := { stood := { row := exportResultsRow, standIns := [], harness := (true, "e456122d396b463e1fa629fcb183855bb228e97223bddbc571de43b3674130fa"), looks := true }, kinds := [], alts := [], laidByText := true, laidKinds := [.data, .data, .data, .data, .sentinel, .sentinel, .pinned], laidTests := true, laidLooks := .later }
def ExportResultsCardSaid : Prop := Claim7.holds Tryz.pinned (.plain (OpenSpec.ofChange exportResultsSpec)) exportResultsCard

/-- THE TIED CARD OF 'stelelaw42.ExportPrefix'. -/
def exportPrefixCard : Claim7 := { stood := { row := exportPrefixRow, standIns := [], harness := (true, "e456122d396b463e1fa629fcb183855bb228e97223bddbc571de43b3674130fa"), looks := true }, kinds := [], alts := [], laidByText := true, laidKinds := [.data, .data, .data, .data, .sentinel, .sentinel, .pinned], laidTests := true, laidLooks := .later }
def ExportPrefixCardSaid : Prop := Claim7.holds Tryz.pinned (.plain (OpenSpec.ofChange exportPrefixSpec)) exportPrefixCard

/-- THE TIED CARD OF 'stelelaw57.CatalogOfArchive'. -/
def catalogOfArchiveCard : Claim7 := { stood := { row := catalogOfArchiveRow, standIns := [], harness := (true, "e456122d396b463e1fa629fcb183855bb228e97223bddbc571de43b3674130fa"), looks := true }, kinds := [], alts := [], laidByText := true, laidKinds := [.data, .data, .data, .data, .sentinel, .sentinel, .pinned], laidTests := true, laidLooks := .later }
def CatalogOfArchiveCardSaid : Prop := Claim7.holds Tryz.pinned (.plain (OpenSpec.ofChange catalogOfArchiveSpec)) catalogOfArchiveCard

/-- THE SECOND FORM's CARD OF 'stelelaw42.ExportResults'. -/
def exportResultsUptoCard : Claim7 := { stood := { row := exportResultsUptoRow, standIns := [], harness := (true, "e456122d396b463e1fa629fcb183855bb228e97223bddbc571de43b3674130fa"), looks := true }, kinds := [], alts := [], laidByText := true, laidKinds := [.data, .data, .data, .data, .sentinel, .sentinel, .pinned], laidTests := true, laidLooks := .later }
def ExportResultsUptoCardSaid : Prop := Claim7.holds Tryz.pinned (.plain (OpenSpec.upto exportResultsSpec)) exportResultsUptoCard

/-- THE SECOND FORM's CARD OF 'stelelaw42.ExportPrefix'. -/
def exportPrefixUptoCard : Claim7 := { stood := { row := exportPrefixUptoRow, standIns := [], harness := (true, "e456122d396b463e1fa629fcb183855bb228e97223bddbc571de43b3674130fa"), looks := true }, kinds := [], alts := [], laidByText := true, laidKinds := [.data, .data, .data, .data, .sentinel, .sentinel, .pinned], laidTests := true, laidLooks := .later }
def ExportPrefixUptoCardSaid : Prop := Claim7.holds Tryz.pinned (.plain (OpenSpec.upto exportPrefixSpec)) exportPrefixUptoCard

/-- THE SECOND FORM's CARD OF 'stelelaw57.CatalogOfArchive'. -/
def catalogOfArchiveUptoCard : Claim7 := { stood := { row := catalogOfArchiveUptoRow, standIns := [], harness := (true, "e456122d396b463e1fa629fcb183855bb228e97223bddbc571de43b3674130fa"), looks := true }, kinds := [], alts := [], laidByText := true, laidKinds := [.data, .data, .data, .data, .sentinel, .sentinel, .pinned], laidTests := true, laidLooks := .later }
def CatalogOfArchiveUptoCardSaid : Prop := Claim7.holds Tryz.pinned (.plain (OpenSpec.upto catalogOfArchiveSpec)) catalogOfArchiveUptoCard
end Rows
end Go.Proofs.YtkipnpjagcfcpaaGreatDoor
