/-
  DERIVED. GIVEN WITH THE SEED: THE CARDS: each row of YtmdfjnhfhidmhaaGreatDoorRows.lean that lists a variable, with what it lists TIED to the program's text (the seventh form; the later family's looks); each row that meets fmt, with fmt's text TOLD by the authors' own Lean function (tested against real Go, not proved from fmt's source: count such statements apart). THE CARD IS WHAT COUNTS. Prove the row's statement (the work); the ties are given (YtmdfjnhfhidmhaaGreatDoorTie.lean); close each card by the builder's one call (the guide's Derived/Test/ToyasCard.lean, 'card_holds'). Laid BY PROGRAM, IN A SANDBOX (cutbox-door.mjs). By AI agents, Wed Nov 11 2026. No macro, syntax, notation, axiom, sorry.
-/
import Derived.Test.YtmdfjnhfhidmhaaGreatDoorRows
import GoSem.ClaimSeven
namespace Go.Proofs.YtmdfjnhfhidmhaaGreatDoor
namespace Rows

/-- THE TIED CARD OF 'stelelaw54.QuotaCharge'. -/
def quotaChargeCard : Claim7 := { stood := { row := quotaChargeRow, standIns := [], harness := (true, "0275e96bc014219c15bb48e2536fd6dde97922fc0372cefa405062084c464ab4"), looks := true }, kinds := [], alts := [], laidByText := true, laidKinds := [.data, .data, .data, .data, .sentinel, .sentinel, .pinned], laidTests := true, laidLooks := .later }
def QuotaChargeCardSaid : Prop := Claim7.holds Tryz.pinned (.plain (OpenSpec.ofChange quotaChargeSpec)) quotaChargeCard

/-- THE TIED CARD OF 'stelelaw54.QuotaIngest'. -/
def quotaIngestCard : Claim7 := { stood := { row := quotaIngestRow, standIns := [], harness := (true, "0275e96bc014219c15bb48e2536fd6dde97922fc0372cefa405062084c464ab4"), looks := true }, kinds := [], alts := [], laidByText := true, laidKinds := [.data, .data, .data, .data, .sentinel, .sentinel, .pinned], laidTests := true, laidLooks := .later }
def QuotaIngestCardSaid : Prop := Claim7.holds Tryz.pinned (.plain (OpenSpec.ofChange quotaIngestSpec)) quotaIngestCard

/-- THE TIED CARD OF 'stelelaw54.QuotaUnlimited'. -/
def quotaUnlimitedCard : Claim7 := { stood := { row := quotaUnlimitedRow, standIns := [], harness := (true, "0275e96bc014219c15bb48e2536fd6dde97922fc0372cefa405062084c464ab4"), looks := true }, kinds := [], alts := [], laidByText := true, laidKinds := [.data, .data, .data, .data, .sentinel, .sentinel, .pinned], laidTests := true, laidLooks := .later }
def QuotaUnlimitedCardSaid : Prop := Claim7.holds Tryz.pinned (.plain (OpenSpec.ofChange quotaUnlimitedSpec)) quotaUnlimitedCard

/-- THE TIED CARD OF 'stelelaw39.SessionWrites'. -/
def sessionWritesCard : Claim7 := { stood := { row := sessionWritesRow, standIns := [], harness := (true, "0275e96bc014219c15bb48e2536fd6dde97922fc0372cefa405062084c464ab4"), looks := true }, kinds := [], alts := [], laidByText := true, laidKinds := [.data, .data, .data, .data, .sentinel, .sentinel, .pinned], laidTests := true, laidLooks := .later }
def SessionWritesCardSaid : Prop := Claim7.holds Tryz.pinned (.plain (OpenSpec.ofChange sessionWritesSpec)) sessionWritesCard

/-- THE TIED CARD OF 'stelelaw39.SessionAdds'. -/
def sessionAddsCard : Claim7 := { stood := { row := sessionAddsRow, standIns := [], harness := (true, "0275e96bc014219c15bb48e2536fd6dde97922fc0372cefa405062084c464ab4"), looks := true }, kinds := [], alts := [], laidByText := true, laidKinds := [.data, .data, .data, .data, .sentinel, .sentinel, .pinned], laidTests := true, laidLooks := .later }
def SessionAddsCardSaid : Prop := Claim7.holds Tryz.pinned (.plain (OpenSpec.ofChange sessionAddsSpec)) sessionAddsCard

/-- THE TIED CARD OF 'stelelaw39.SessionState'. -/
def sessionStateCard : Claim7 := { stood := { row := sessionStateRow, standIns := [], harness := (true, "0275e96bc014219c15bb48e2536fd6dde97922fc0372cefa405062084c464ab4"), looks := true }, kinds := [], alts := [], laidByText := true, laidKinds := [.data, .data, .data, .data, .sentinel, .sentinel, .pinned], laidTests := true, laidLooks := .later }
def SessionStateCardSaid : Prop := Claim7.holds Tryz.pinned (.plain (OpenSpec.ofChange sessionStateSpec)) sessionStateCard

/-- THE TIED CARD OF 'stelelaw54.QuotaCheck'. -/
def quotaCheckCard : Claim7 := { stood := { row := quotaCheckRow, standIns := [], harness := (true, "0275e96bc014219c15bb48e2536fd6dde97922fc0372cefa405062084c464ab4"), looks := true }, kinds := [], alts := [], laidByText := true, laidKinds := [.data, .data, .data, .data, .sentinel, .sentinel, .pinned], laidTests := true, laidLooks := .later }
def QuotaCheckCardSaid : Prop := Claim7.holds Tryz.pinned (.plain (OpenSpec.ofChange quotaCheckSpec)) quotaCheckCard

/-- THE TIED CARD OF 'stelelaw54.QuotaBounds'. -/
def quotaBoundsCard : Claim7 := { stood := { row := quotaBoundsRow, standIns := [], harness := (true, "0275e96bc014219c15bb48e2536fd6dde97922fc0372cefa405062084c464ab4"), looks := true }, kinds := [], alts := [], laidByText := true, laidKinds := [.data, .data, .data, .data, .sentinel, .sentinel, .pinned], laidTests := true, laidLooks := .later }
def QuotaBoundsCardSaid : Prop := Claim7.holds Tryz.pinned (.plain (OpenSpec.ofChange quotaBoundsSpec)) quotaBoundsCard

/-- THE TIED CARD OF 'stelelaw54.QuotaEntries'. -/
def quotaEntriesCard : Claim7 := { stood := { row := quotaEntriesRow, standIns := [], harness := (true, "0275e96bc014219c15bb48e2536fd6dde97922fc0372cefa405062084c464ab4"), looks := true }, kinds := [], alts := [], laidByText := true, laidKinds := [.data, .data, .data, .data, .sentinel, .sentinel, .pinned], laidTests := true, laidLooks := .later }
def QuotaEntriesCardSaid : Prop := Claim7.holds Tryz.pinned (.plain (OpenSpec.ofChange quotaEntriesSpec)) quotaEntriesCard

/-- THE TIED CARD OF 'stelelaw54.QuotaIndependence'. -/
def quotaIndependenceCard : Claim7 := { stood := { row := quotaIndependenceRow, standIns := [], harness := (true, "0275e96bc014219c15bb48e2536fd6dde97922fc0372cefa405062084c464ab4"), looks := true }, kinds := [], alts := [], laidByText := true, laidKinds := [.data, .data, .data, .data, .sentinel, .sentinel, .pinned], laidTests := true, laidLooks := .later }
def QuotaIndependenceCardSaid : Prop := Claim7.holds Tryz.pinned (.plain (OpenSpec.ofChange quotaIndependenceSpec)) quotaIndependenceCard

/-- THE TIED CARD OF 'stelelaw54.QuotaLimit'. -/
def quotaLimitCard : Claim7 := { stood := { row := quotaLimitRow, standIns := [], harness := (true, "0275e96bc014219c15bb48e2536fd6dde97922fc0372cefa405062084c464ab4"), looks := true }, kinds := [], alts := [], laidByText := true, laidKinds := [.data, .data, .data, .data, .sentinel, .sentinel, .pinned], laidTests := true, laidLooks := .later }
def QuotaLimitCardSaid : Prop := Claim7.holds Tryz.pinned (.plain (OpenSpec.ofChange quotaLimitSpec)) quotaLimitCard

/-- THE SECOND FORM's CARD OF 'stelelaw54.QuotaCharge'. -/
def quotaChargeUptoCard : Claim7 := { stood := { row := quotaChargeUptoRow, standIns := [], harness := (true, "0275e96bc014219c15bb48e2536fd6dde97922fc0372cefa405062084c464ab4"), looks := true }, kinds := [], alts := [], laidByText := true, laidKinds := [.data, .data, .data, .data, .sentinel, .sentinel, .pinned], laidTests := true, laidLooks := .later }
def QuotaChargeUptoCardSaid : Prop := Claim7.holds Tryz.pinned (.plain (OpenSpec.upto quotaChargeSpec)) quotaChargeUptoCard

/-- THE SECOND FORM's CARD OF 'stelelaw54.QuotaIngest'. -/
def quotaIngestUptoCard : Claim7 := { stood := { row := quotaIngestUptoRow, standIns := [], harness := (true, "0275e96bc014219c15bb48e2536fd6dde97922fc0372cefa405062084c464ab4"), looks := true }, kinds := [], alts := [], laidByText := true, laidKinds := [.data, .data, .data, .data, .sentinel, .sentinel, .pinned], laidTests := true, laidLooks := .later }
def QuotaIngestUptoCardSaid : Prop := Claim7.holds Tryz.pinned (.plain (OpenSpec.upto quotaIngestSpec)) quotaIngestUptoCard

/-- THE SECOND FORM's CARD OF 'stelelaw54.QuotaUnlimited'. -/
def quotaUnlimitedUptoCard : Claim7 := { stood := { row := quotaUnlimitedUptoRow, standIns := [], harness := (true, "0275e96bc014219c15bb48e2536fd6dde97922fc0372cefa405062084c464ab4"), looks := true }, kinds := [], alts := [], laidByText := true, laidKinds := [.data, .data, .data, .data, .sentinel, .sentinel, .pinned], laidTests := true, laidLooks := .later }
def QuotaUnlimitedUptoCardSaid : Prop := Claim7.holds Tryz.pinned (.plain (OpenSpec.upto quotaUnlimitedSpec)) quotaUnlimitedUptoCard

/-- THE SECOND FORM's CARD OF 'stelelaw39.SessionWrites'. -/
def sessionWritesUptoCard : Claim7 := { stood := { row := sessionWritesUptoRow, standIns := [], harness := (true, "0275e96bc014219c15bb48e2536fd6dde97922fc0372cefa405062084c464ab4"), looks := true }, kinds := [], alts := [], laidByText := true, laidKinds := [.data, .data, .data, .data, .sentinel, .sentinel, .pinned], laidTests := true, laidLooks := .later }
def SessionWritesUptoCardSaid : Prop := Claim7.holds Tryz.pinned (.plain (OpenSpec.upto sessionWritesSpec)) sessionWritesUptoCard

/-- THE SECOND FORM's CARD OF 'stelelaw39.SessionAdds'. -/
def sessionAddsUptoCard : Claim7 := { stood := { row := sessionAddsUptoRow, standIns := [], harness := (true, "0275e96bc014219c15bb48e2536fd6dde97922fc0372cefa405062084c464ab4"), looks := true }, kinds := [], alts := [], laidByText := true, laidKinds := [.data, .data, .data, .data, .sentinel, .sentinel, .pinned], laidTests := true, laidLooks := .later }
def SessionAddsUptoCardSaid : Prop := Claim7.holds Tryz.pinned (.plain (OpenSpec.upto sessionAddsSpec)) sessionAddsUptoCard

/-- THE SECOND FORM's CARD OF 'stelelaw39.SessionState'. -/
def sessionStateUptoCard : Claim7 := { stood := { row := sessionStateUptoRow, standIns := [], harness := (true, "0275e96bc014219c15bb48e2536fd6dde97922fc0372cefa405062084c464ab4"), looks := true }, kinds := [], alts := [], laidByText := true, laidKinds := [.data, .data, .data, .data, .sentinel, .sentinel, .pinned], laidTests := true, laidLooks := .later }
def SessionStateUptoCardSaid : Prop := Claim7.holds Tryz.pinned (.plain (OpenSpec.upto sessionStateSpec)) sessionStateUptoCard

/-- THE SECOND FORM's CARD OF 'stelelaw54.QuotaCheck'. -/
def quotaCheckUptoCard : Claim7 := { stood := { row := quotaCheckUptoRow, standIns := [], harness := (true, "0275e96bc014219c15bb48e2536fd6dde97922fc0372cefa405062084c464ab4"), looks := true }, kinds := [], alts := [], laidByText := true, laidKinds := [.data, .data, .data, .data, .sentinel, .sentinel, .pinned], laidTests := true, laidLooks := .later }
def QuotaCheckUptoCardSaid : Prop := Claim7.holds Tryz.pinned (.plain (OpenSpec.upto quotaCheckSpec)) quotaCheckUptoCard

/-- THE SECOND FORM's CARD OF 'stelelaw54.QuotaBounds'. -/
def quotaBoundsUptoCard : Claim7 := { stood := { row := quotaBoundsUptoRow, standIns := [], harness := (true, "0275e96bc014219c15bb48e2536fd6dde97922fc0372cefa405062084c464ab4"), looks := true }, kinds := [], alts := [], laidByText := true, laidKinds := [.data, .data, .data, .data, .sentinel, .sentinel, .pinned], laidTests := true, laidLooks := .later }
def QuotaBoundsUptoCardSaid : Prop := Claim7.holds Tryz.pinned (.plain (OpenSpec.upto quotaBoundsSpec)) quotaBoundsUptoCard

/-- THE SECOND FORM's CARD OF 'stelelaw54.QuotaEntries'. -/
def quotaEntriesUptoCard : Claim7 := { stood := { row := quotaEntriesUptoRow, standIns := [], harness := (true, "0275e96bc014219c15bb48e2536fd6dde97922fc0372cefa405062084c464ab4"), looks := true }, kinds := [], alts := [], laidByText := true, laidKinds := [.data, .data, .data, .data, .sentinel, .sentinel, .pinned], laidTests := true, laidLooks := .later }
def QuotaEntriesUptoCardSaid : Prop := Claim7.holds Tryz.pinned (.plain (OpenSpec.upto quotaEntriesSpec)) quotaEntriesUptoCard

/-- THE SECOND FORM's CARD OF 'stelelaw54.QuotaIndependence'. -/
def quotaIndependenceUptoCard : Claim7 := { stood := { row := quotaIndependenceUptoRow, standIns := [], harness := (true, "0275e96bc014219c15bb48e2536fd6dde97922fc0372cefa405062084c464ab4"), looks := true }, kinds := [], alts := [], laidByText := true, laidKinds := [.data, .data, .data, .data, .sentinel, .sentinel, .pinned], laidTests := true, laidLooks := .later }
def QuotaIndependenceUptoCardSaid : Prop := Claim7.holds Tryz.pinned (.plain (OpenSpec.upto quotaIndependenceSpec)) quotaIndependenceUptoCard

/-- THE SECOND FORM's CARD OF 'stelelaw54.QuotaLimit'. -/
def quotaLimitUptoCard : Claim7 := { stood := { row := quotaLimitUptoRow, standIns := [], harness := (true, "0275e96bc014219c15bb48e2536fd6dde97922fc0372cefa405062084c464ab4"), looks := true }, kinds := [], alts := [], laidByText := true, laidKinds := [.data, .data, .data, .data, .sentinel, .sentinel, .pinned], laidTests := true, laidLooks := .later }
def QuotaLimitUptoCardSaid : Prop := Claim7.holds Tryz.pinned (.plain (OpenSpec.upto quotaLimitSpec)) quotaLimitUptoCard
end Rows
end Go.Proofs.YtmdfjnhfhidmhaaGreatDoor
