/-
  DERIVED. GIVEN WITH THE SEED: THE CARDS: each row of YtdeknddamidldaaGreatDoorRows.lean that lists a variable, with what it lists TIED to the program's text (the seventh form; the later family's looks); each row that meets fmt, with fmt's text TOLD by the authors' own Lean function (tested against real Go, not proved from fmt's source: count such statements apart). THE CARD IS WHAT COUNTS. Prove the row's statement (the work); the ties are given (YtdeknddamidldaaGreatDoorTie.lean); close each card by the builder's one call (the guide's Derived/Test/ToyasCard.lean, 'card_holds'). Laid BY PROGRAM, IN A SANDBOX (cutbox-door.mjs). By AI agents, Wed Nov 11 2026. No macro, syntax, notation, axiom, sorry.
-/
import Derived.Test.YtdeknddamidldaaGreatDoorRows
import GoSem.ClaimSeven
namespace Go.Proofs.YtdeknddamidldaaGreatDoor
namespace Rows

/-- THE TIED CARD OF 'stelelaw41.HistoryChecks'. -/
def historyChecksCard : Claim7 := { stood := { row := historyChecksRow, standIns := [], harness := (true, "7128d7c5000cfc4856fc03dc2484d6669bf01373c634aee94a45a59cca23e521"), looks := true }, kinds := [], alts := [], laidByText := true, laidKinds := [.data, .data, .data, .data, .sentinel, .sentinel, .pinned], laidTests := true, laidLooks := .later }
def HistoryChecksCardSaid : Prop := Claim7.holds Tryz.pinned (.plain (OpenSpec.ofChange historyChecksSpec)) historyChecksCard

/-- THE TIED CARD OF 'stelelaw41.HistoryVersions'. -/
def historyVersionsCard : Claim7 := { stood := { row := historyVersionsRow, standIns := [], harness := (true, "7128d7c5000cfc4856fc03dc2484d6669bf01373c634aee94a45a59cca23e521"), looks := true }, kinds := [], alts := [], laidByText := true, laidKinds := [.data, .data, .data, .data, .sentinel, .sentinel, .pinned], laidTests := true, laidLooks := .later }
def HistoryVersionsCardSaid : Prop := Claim7.holds Tryz.pinned (.plain (OpenSpec.ofChange historyVersionsSpec)) historyVersionsCard

/-- THE TIED CARD OF 'stelelaw41.HistoryLastVersion'. -/
def historyLastVersionCard : Claim7 := { stood := { row := historyLastVersionRow, standIns := [], harness := (true, "7128d7c5000cfc4856fc03dc2484d6669bf01373c634aee94a45a59cca23e521"), looks := true }, kinds := [], alts := [], laidByText := true, laidKinds := [.data, .data, .data, .data, .sentinel, .sentinel, .pinned], laidTests := true, laidLooks := .later }
def HistoryLastVersionCardSaid : Prop := Claim7.holds Tryz.pinned (.plain (OpenSpec.ofChange historyLastVersionSpec)) historyLastVersionCard

/-- THE TIED CARD OF 'stelelaw41.HistoryTampering'. -/
def historyTamperingCard : Claim7 := { stood := { row := historyTamperingRow, standIns := [], harness := (true, "7128d7c5000cfc4856fc03dc2484d6669bf01373c634aee94a45a59cca23e521"), looks := true }, kinds := [], alts := [], laidByText := true, laidKinds := [.data, .data, .data, .data, .sentinel, .sentinel, .pinned], laidTests := true, laidLooks := .later }
def HistoryTamperingCardSaid : Prop := Claim7.holds Tryz.pinned (.plain (OpenSpec.ofChange historyTamperingSpec)) historyTamperingCard

/-- THE TIED CARD OF 'stelelaw41.HistoryVersionCount'. -/
def historyVersionCountCard : Claim7 := { stood := { row := historyVersionCountRow, standIns := [], harness := (true, "7128d7c5000cfc4856fc03dc2484d6669bf01373c634aee94a45a59cca23e521"), looks := true }, kinds := [], alts := [], laidByText := true, laidKinds := [.data, .data, .data, .data, .sentinel, .sentinel, .pinned], laidTests := true, laidLooks := .later }
def HistoryVersionCountCardSaid : Prop := Claim7.holds Tryz.pinned (.plain (OpenSpec.ofChange historyVersionCountSpec)) historyVersionCountCard

/-- THE TIED CARD OF 'stelelaw41.HistoryStates'. -/
def historyStatesCard : Claim7 := { stood := { row := historyStatesRow, standIns := [], harness := (true, "7128d7c5000cfc4856fc03dc2484d6669bf01373c634aee94a45a59cca23e521"), looks := true }, kinds := [], alts := [], laidByText := true, laidKinds := [.data, .data, .data, .data, .sentinel, .sentinel, .pinned], laidTests := true, laidLooks := .later }
def HistoryStatesCardSaid : Prop := Claim7.holds Tryz.pinned (.plain (OpenSpec.ofChange historyStatesSpec)) historyStatesCard

/-- THE TIED CARD OF 'stelelaw41.HistoryImmutable'. -/
def historyImmutableCard : Claim7 := { stood := { row := historyImmutableRow, standIns := [], harness := (true, "7128d7c5000cfc4856fc03dc2484d6669bf01373c634aee94a45a59cca23e521"), looks := true }, kinds := [], alts := [], laidByText := true, laidKinds := [.data, .data, .data, .data, .sentinel, .sentinel, .pinned], laidTests := true, laidLooks := .later }
def HistoryImmutableCardSaid : Prop := Claim7.holds Tryz.pinned (.plain (OpenSpec.ofChange historyImmutableSpec)) historyImmutableCard

/-- THE SECOND FORM's CARD OF 'stelelaw41.HistoryChecks'. -/
def historyChecksUptoCard : Claim7 := { stood := { row := historyChecksUptoRow, standIns := [], harness := (true, "7128d7c5000cfc4856fc03dc2484d6669bf01373c634aee94a45a59cca23e521"), looks := true }, kinds := [], alts := [], laidByText := true, laidKinds := [.data, .data, .data, .data, .sentinel, .sentinel, .pinned], laidTests := true, laidLooks := .later }
def HistoryChecksUptoCardSaid : Prop := Claim7.holds Tryz.pinned (.plain (OpenSpec.upto historyChecksSpec)) historyChecksUptoCard

/-- THE SECOND FORM's CARD OF 'stelelaw41.HistoryVersions'. -/
def historyVersionsUptoCard : Claim7 := { stood := { row := historyVersionsUptoRow, standIns := [], harness := (true, "7128d7c5000cfc4856fc03dc2484d6669bf01373c634aee94a45a59cca23e521"), looks := true }, kinds := [], alts := [], laidByText := true, laidKinds := [.data, .data, .data, .data, .sentinel, .sentinel, .pinned], laidTests := true, laidLooks := .later }
def HistoryVersionsUptoCardSaid : Prop := Claim7.holds Tryz.pinned (.plain (OpenSpec.upto historyVersionsSpec)) historyVersionsUptoCard

/-- THE SECOND FORM's CARD OF 'stelelaw41.HistoryLastVersion'. -/
def historyLastVersionUptoCard : Claim7 := { stood := { row := historyLastVersionUptoRow, standIns := [], harness := (true, "7128d7c5000cfc4856fc03dc2484d6669bf01373c634aee94a45a59cca23e521"), looks := true }, kinds := [], alts := [], laidByText := true, laidKinds := [.data, .data, .data, .data, .sentinel, .sentinel, .pinned], laidTests := true, laidLooks := .later }
def HistoryLastVersionUptoCardSaid : Prop := Claim7.holds Tryz.pinned (.plain (OpenSpec.upto historyLastVersionSpec)) historyLastVersionUptoCard

/-- THE SECOND FORM's CARD OF 'stelelaw41.HistoryTampering'. -/
def historyTamperingUptoCard : Claim7 := { stood := { row := historyTamperingUptoRow, standIns := [], harness := (true, "7128d7c5000cfc4856fc03dc2484d6669bf01373c634aee94a45a59cca23e521"), looks := true }, kinds := [], alts := [], laidByText := true, laidKinds := [.data, .data, .data, .data, .sentinel, .sentinel, .pinned], laidTests := true, laidLooks := .later }
def HistoryTamperingUptoCardSaid : Prop := Claim7.holds Tryz.pinned (.plain (OpenSpec.upto historyTamperingSpec)) historyTamperingUptoCard

/-- THE SECOND FORM's CARD OF 'stelelaw41.HistoryVersionCount'. -/
def historyVersionCountUptoCard : Claim7 := { stood := { row := historyVersionCountUptoRow, standIns := [], harness := (true, "7128d7c5000cfc4856fc03dc2484d6669bf01373c634aee94a45a59cca23e521"), looks := true }, kinds := [], alts := [], laidByText := true, laidKinds := [.data, .data, .data, .data, .sentinel, .sentinel, .pinned], laidTests := true, laidLooks := .later }
def HistoryVersionCountUptoCardSaid : Prop := Claim7.holds Tryz.pinned (.plain (OpenSpec.upto historyVersionCountSpec)) historyVersionCountUptoCard

/-- THE SECOND FORM's CARD OF 'stelelaw41.HistoryStates'. -/
def historyStatesUptoCard : Claim7 := { stood := { row := historyStatesUptoRow, standIns := [], harness := (true, "7128d7c5000cfc4856fc03dc2484d6669bf01373c634aee94a45a59cca23e521"), looks := true }, kinds := [], alts := [], laidByText := true, laidKinds := [.data, .data, .data, .data, .sentinel, .sentinel, .pinned], laidTests := true, laidLooks := .later }
def HistoryStatesUptoCardSaid : Prop := Claim7.holds Tryz.pinned (.plain (OpenSpec.upto historyStatesSpec)) historyStatesUptoCard

/-- THE SECOND FORM's CARD OF 'stelelaw41.HistoryImmutable'. -/
def historyImmutableUptoCard : Claim7 := { stood := { row := historyImmutableUptoRow, standIns := [], harness := (true, "7128d7c5000cfc4856fc03dc2484d6669bf01373c634aee94a45a59cca23e521"), looks := true }, kinds := [], alts := [], laidByText := true, laidKinds := [.data, .data, .data, .data, .sentinel, .sentinel, .pinned], laidTests := true, laidLooks := .later }
def HistoryImmutableUptoCardSaid : Prop := Claim7.holds Tryz.pinned (.plain (OpenSpec.upto historyImmutableSpec)) historyImmutableUptoCard
end Rows
end Go.Proofs.YtdeknddamidldaaGreatDoor
