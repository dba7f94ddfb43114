/-
  DERIVED. GIVEN WITH THE SEED: THE CARDS: each row of YtmapjaihkmjmmaaDoorRows.lean that lists a variable, with what it lists TIED to the program's text (the seventh form; the later family's looks); each row that meets fmt, with fmt's text TOLD by the authors' own Lean function (tested against real Go, not proved from fmt's source: count such statements apart). THE CARD IS WHAT COUNTS. Prove the row's statement (the work); the ties are given (YtmapjaihkmjmmaaDoorTie.lean); close each card by the builder's one call (the guide's Derived/Test/ToyasCard.lean, 'card_holds'). Laid BY PROGRAM, IN A SANDBOX (cutbox-door.mjs). By AI agents, Wed Nov 11 2026. No macro, syntax, notation, axiom, sorry.
-/
import Derived.Test.YtmapjaihkmjmmaaDoorRows
import GoSem.ClaimSeven
namespace Go.Proofs.YtmapjaihkmjmmaaDoor
namespace Rows

/-- THE TIED CARD OF 'stelelaw57.CatalogAdds'. -/
def catalogAddsCard : Claim7 := { stood := { row := catalogAddsRow, standIns := [], harness := (true, "052465693b198630972ec265293ebf961c5340bddf17774db4a8d8bd25041c58"), looks := false }, kinds := [], alts := [], laidByText := true, laidKinds := [.data, .data, .data], laidTests := true, laidLooks := .later }
def CatalogAddsCardSaid : Prop := Claim7.holds Tryd.pinned (.plain (OpenSpec.ofChange catalogAddsSpec)) catalogAddsCard

/-- THE TIED CARD OF 'stelelaw57.CatalogOrder'. -/
def catalogOrderCard : Claim7 := { stood := { row := catalogOrderRow, standIns := [], harness := (true, "052465693b198630972ec265293ebf961c5340bddf17774db4a8d8bd25041c58"), looks := false }, kinds := [], alts := [], laidByText := true, laidKinds := [.data, .data, .data], laidTests := true, laidLooks := .later }
def CatalogOrderCardSaid : Prop := Claim7.holds Tryd.pinned (.plain (OpenSpec.ofChange catalogOrderSpec)) catalogOrderCard

/-- THE TIED CARD OF 'stelelaw57.CatalogSummaries'. -/
def catalogSummariesCard : Claim7 := { stood := { row := catalogSummariesRow, standIns := [], harness := (true, "052465693b198630972ec265293ebf961c5340bddf17774db4a8d8bd25041c58"), looks := false }, kinds := [], alts := [], laidByText := true, laidKinds := [.data, .data, .data], laidTests := true, laidLooks := .later }
def CatalogSummariesCardSaid : Prop := Claim7.holds Tryd.pinned (.plain (OpenSpec.ofChange catalogSummariesSpec)) catalogSummariesCard

/-- THE TIED CARD OF 'stelelaw57.CatalogDigests'. -/
def catalogDigestsCard : Claim7 := { stood := { row := catalogDigestsRow, standIns := [], harness := (true, "052465693b198630972ec265293ebf961c5340bddf17774db4a8d8bd25041c58"), looks := false }, kinds := [], alts := [], laidByText := true, laidKinds := [.data, .data, .data], laidTests := true, laidLooks := .later }
def CatalogDigestsCardSaid : Prop := Claim7.holds Tryd.pinned (.plain (OpenSpec.ofChange catalogDigestsSpec)) catalogDigestsCard

/-- THE TIED CARD OF 'stelelaw57.CatalogParts'. -/
def catalogPartsCard : Claim7 := { stood := { row := catalogPartsRow, standIns := [], harness := (true, "052465693b198630972ec265293ebf961c5340bddf17774db4a8d8bd25041c58"), looks := false }, kinds := [], alts := [], laidByText := true, laidKinds := [.data, .data, .data], laidTests := true, laidLooks := .later }
def CatalogPartsCardSaid : Prop := Claim7.holds Tryd.pinned (.plain (OpenSpec.ofChange catalogPartsSpec)) catalogPartsCard

/-- THE TIED CARD OF 'stelelaw57.CatalogDisjoint'. -/
def catalogDisjointCard : Claim7 := { stood := { row := catalogDisjointRow, standIns := [], harness := (true, "052465693b198630972ec265293ebf961c5340bddf17774db4a8d8bd25041c58"), looks := false }, kinds := [], alts := [], laidByText := true, laidKinds := [.data, .data, .data], laidTests := true, laidLooks := .later }
def CatalogDisjointCardSaid : Prop := Claim7.holds Tryd.pinned (.plain (OpenSpec.ofChange catalogDisjointSpec)) catalogDisjointCard

/-- THE SECOND FORM's CARD OF 'stelelaw57.CatalogAdds'. -/
def catalogAddsUptoCard : Claim7 := { stood := { row := catalogAddsUptoRow, standIns := [], harness := (true, "052465693b198630972ec265293ebf961c5340bddf17774db4a8d8bd25041c58"), looks := false }, kinds := [], alts := [], laidByText := true, laidKinds := [.data, .data, .data], laidTests := true, laidLooks := .later }
def CatalogAddsUptoCardSaid : Prop := Claim7.holds Tryd.pinned (.plain (OpenSpec.upto catalogAddsSpec)) catalogAddsUptoCard

/-- THE SECOND FORM's CARD OF 'stelelaw57.CatalogOrder'. -/
def catalogOrderUptoCard : Claim7 := { stood := { row := catalogOrderUptoRow, standIns := [], harness := (true, "052465693b198630972ec265293ebf961c5340bddf17774db4a8d8bd25041c58"), looks := false }, kinds := [], alts := [], laidByText := true, laidKinds := [.data, .data, .data], laidTests := true, laidLooks := .later }
def CatalogOrderUptoCardSaid : Prop := Claim7.holds Tryd.pinned (.plain (OpenSpec.upto catalogOrderSpec)) catalogOrderUptoCard

/-- THE SECOND FORM's CARD OF 'stelelaw57.CatalogSummaries'. -/
def catalogSummariesUptoCard : Claim7 := { stood := { row := catalogSummariesUptoRow, standIns := [], harness := (true, "052465693b198630972ec265293ebf961c5340bddf17774db4a8d8bd25041c58"), looks := false }, kinds := [], alts := [], laidByText := true, laidKinds := [.data, .data, .data], laidTests := true, laidLooks := .later }
def CatalogSummariesUptoCardSaid : Prop := Claim7.holds Tryd.pinned (.plain (OpenSpec.upto catalogSummariesSpec)) catalogSummariesUptoCard

/-- THE SECOND FORM's CARD OF 'stelelaw57.CatalogDigests'. -/
def catalogDigestsUptoCard : Claim7 := { stood := { row := catalogDigestsUptoRow, standIns := [], harness := (true, "052465693b198630972ec265293ebf961c5340bddf17774db4a8d8bd25041c58"), looks := false }, kinds := [], alts := [], laidByText := true, laidKinds := [.data, .data, .data], laidTests := true, laidLooks := .later }
def CatalogDigestsUptoCardSaid : Prop := Claim7.holds Tryd.pinned (.plain (OpenSpec.upto catalogDigestsSpec)) catalogDigestsUptoCard

/-- THE SECOND FORM's CARD OF 'stelelaw57.CatalogParts'. -/
def catalogPartsUptoCard : Claim7 := { stood := { row := catalogPartsUptoRow, standIns := [], harness := (true, "052465693b198630972ec265293ebf961c5340bddf17774db4a8d8bd25041c58"), looks := false }, kinds := [], alts := [], laidByText := true, laidKinds := [.data, .data, .data], laidTests := true, laidLooks := .later }
def CatalogPartsUptoCardSaid : Prop := Claim7.holds Tryd.pinned (.plain (OpenSpec.upto catalogPartsSpec)) catalogPartsUptoCard

/-- THE SECOND FORM's CARD OF 'stelelaw57.CatalogDisjoint'. -/
def catalogDisjointUptoCard : Claim7 := { stood := { row := catalogDisjointUptoRow, standIns := [], harness := (true, "052465693b198630972ec265293ebf961c5340bddf17774db4a8d8bd25041c58"), looks := false }, kinds := [], alts := [], laidByText := true, laidKinds := [.data, .data, .data], laidTests := true, laidLooks := .later }
def CatalogDisjointUptoCardSaid : Prop := Claim7.holds Tryd.pinned (.plain (OpenSpec.upto catalogDisjointSpec)) catalogDisjointUptoCard
end Rows
end Go.Proofs.YtmapjaihkmjmmaaDoor
