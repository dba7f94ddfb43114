/-
  DERIVED. GIVEN WITH THE SEED: THE CARDS: each row of YtjdednajelommaaGreatDoorRows.lean that lists a variable, with what it lists TIED to the program's text (the seventh form; the later family's looks); each row that meets fmt, with fmt's text TOLD by the authors' own Lean function (tested against real Go, not proved from fmt's source: count such statements apart). THE CARD IS WHAT COUNTS. Prove the row's statement (the work); the ties are given (YtjdednajelommaaGreatDoorTie.lean); close each card by the builder's one call (the guide's Derived/Test/ToyasCard.lean, 'card_holds'). Laid BY PROGRAM, IN A SANDBOX (cutbox-door.mjs). By AI agents, Wed Nov 11 2026. No macro, syntax, notation, axiom, sorry.
-/
import Derived.Test.YtjdednajelommaaGreatDoorRows
import GoSem.ClaimSeven
namespace Go.Proofs.YtjdednajelommaaGreatDoor
namespace Rows

/-- THE TIED CARD OF 'stelelaw39.SessionWrites'. -/
def sessionWritesCard : Claim7 := { stood := { row := sessionWritesRow, standIns := [], harness := (true, "18acd78542348af87a5262340263cbe922d9e805fcb623b669302bcaf7d5c735"), looks := true }, kinds := [], alts := [], laidByText := true, laidKinds := [.data, .data, .data, .data, .sentinel, .sentinel, .pinned], laidTests := true, laidLooks := .later }
def SessionWritesCardSaid : Prop := Claim7.holds Tryz.pinned (.plain (OpenSpec.ofChange sessionWritesSpec)) sessionWritesCard

/-- THE TIED CARD OF 'stelelaw39.SessionAdds'. -/
def sessionAddsCard : Claim7 := { stood := { row := sessionAddsRow, standIns := [], harness := (true, "18acd78542348af87a5262340263cbe922d9e805fcb623b669302bcaf7d5c735"), looks := true }, kinds := [], alts := [], laidByText := true, laidKinds := [.data, .data, .data, .data, .sentinel, .sentinel, .pinned], laidTests := true, laidLooks := .later }
def SessionAddsCardSaid : Prop := Claim7.holds Tryz.pinned (.plain (OpenSpec.ofChange sessionAddsSpec)) sessionAddsCard

/-- THE TIED CARD OF 'stelelaw39.SessionAppends'. -/
def sessionAppendsCard : Claim7 := { stood := { row := sessionAppendsRow, standIns := [], harness := (true, "18acd78542348af87a5262340263cbe922d9e805fcb623b669302bcaf7d5c735"), looks := true }, kinds := [], alts := [], laidByText := true, laidKinds := [.data, .data, .data, .data, .sentinel, .sentinel, .pinned], laidTests := true, laidLooks := .later }
def SessionAppendsCardSaid : Prop := Claim7.holds Tryz.pinned (.plain (OpenSpec.ofChange sessionAppendsSpec)) sessionAppendsCard

/-- THE TIED CARD OF 'stelelaw39.SessionAtomic'. -/
def sessionAtomicCard : Claim7 := { stood := { row := sessionAtomicRow, standIns := [], harness := (true, "18acd78542348af87a5262340263cbe922d9e805fcb623b669302bcaf7d5c735"), looks := true }, kinds := [], alts := [], laidByText := true, laidKinds := [.data, .data, .data, .data, .sentinel, .sentinel, .pinned], laidTests := true, laidLooks := .later }
def SessionAtomicCardSaid : Prop := Claim7.holds Tryz.pinned (.plain (OpenSpec.ofChange sessionAtomicSpec)) sessionAtomicCard

/-- THE TIED CARD OF 'stelelaw39.SessionContents'. -/
def sessionContentsCard : Claim7 := { stood := { row := sessionContentsRow, standIns := [], harness := (true, "18acd78542348af87a5262340263cbe922d9e805fcb623b669302bcaf7d5c735"), looks := true }, kinds := [], alts := [], laidByText := true, laidKinds := [.data, .data, .data, .data, .sentinel, .sentinel, .pinned], laidTests := true, laidLooks := .later }
def SessionContentsCardSaid : Prop := Claim7.holds Tryz.pinned (.plain (OpenSpec.ofChange sessionContentsSpec)) sessionContentsCard

/-- THE TIED CARD OF 'stelelaw39.SessionDeduplicates'. -/
def sessionDeduplicatesCard : Claim7 := { stood := { row := sessionDeduplicatesRow, standIns := [], harness := (true, "18acd78542348af87a5262340263cbe922d9e805fcb623b669302bcaf7d5c735"), looks := true }, kinds := [], alts := [], laidByText := true, laidKinds := [.data, .data, .data, .data, .sentinel, .sentinel, .pinned], laidTests := true, laidLooks := .later }
def SessionDeduplicatesCardSaid : Prop := Claim7.holds Tryz.pinned (.plain (OpenSpec.ofChange sessionDeduplicatesSpec)) sessionDeduplicatesCard

/-- THE TIED CARD OF 'stelelaw39.SessionHolds'. -/
def sessionHoldsCard : Claim7 := { stood := { row := sessionHoldsRow, standIns := [], harness := (true, "18acd78542348af87a5262340263cbe922d9e805fcb623b669302bcaf7d5c735"), looks := true }, kinds := [], alts := [], laidByText := true, laidKinds := [.data, .data, .data, .data, .sentinel, .sentinel, .pinned], laidTests := true, laidLooks := .later }
def SessionHoldsCardSaid : Prop := Claim7.holds Tryz.pinned (.plain (OpenSpec.ofChange sessionHoldsSpec)) sessionHoldsCard

/-- THE TIED CARD OF 'stelelaw39.SessionState'. -/
def sessionStateCard : Claim7 := { stood := { row := sessionStateRow, standIns := [], harness := (true, "18acd78542348af87a5262340263cbe922d9e805fcb623b669302bcaf7d5c735"), looks := true }, kinds := [], alts := [], laidByText := true, laidKinds := [.data, .data, .data, .data, .sentinel, .sentinel, .pinned], laidTests := true, laidLooks := .later }
def SessionStateCardSaid : Prop := Claim7.holds Tryz.pinned (.plain (OpenSpec.ofChange sessionStateSpec)) sessionStateCard

/-- THE TIED CARD OF 'stelelaw39.SessionSplits'. -/
def sessionSplitsCard : Claim7 := { stood := { row := sessionSplitsRow, standIns := [], harness := (true, "18acd78542348af87a5262340263cbe922d9e805fcb623b669302bcaf7d5c735"), looks := true }, kinds := [], alts := [], laidByText := true, laidKinds := [.data, .data, .data, .data, .sentinel, .sentinel, .pinned], laidTests := true, laidLooks := .later }
def SessionSplitsCardSaid : Prop := Claim7.holds Tryz.pinned (.plain (OpenSpec.ofChange sessionSplitsSpec)) sessionSplitsCard

/-- THE SECOND FORM's CARD OF 'stelelaw39.SessionWrites'. -/
def sessionWritesUptoCard : Claim7 := { stood := { row := sessionWritesUptoRow, standIns := [], harness := (true, "18acd78542348af87a5262340263cbe922d9e805fcb623b669302bcaf7d5c735"), looks := true }, kinds := [], alts := [], laidByText := true, laidKinds := [.data, .data, .data, .data, .sentinel, .sentinel, .pinned], laidTests := true, laidLooks := .later }
def SessionWritesUptoCardSaid : Prop := Claim7.holds Tryz.pinned (.plain (OpenSpec.upto sessionWritesSpec)) sessionWritesUptoCard

/-- THE SECOND FORM's CARD OF 'stelelaw39.SessionAdds'. -/
def sessionAddsUptoCard : Claim7 := { stood := { row := sessionAddsUptoRow, standIns := [], harness := (true, "18acd78542348af87a5262340263cbe922d9e805fcb623b669302bcaf7d5c735"), looks := true }, kinds := [], alts := [], laidByText := true, laidKinds := [.data, .data, .data, .data, .sentinel, .sentinel, .pinned], laidTests := true, laidLooks := .later }
def SessionAddsUptoCardSaid : Prop := Claim7.holds Tryz.pinned (.plain (OpenSpec.upto sessionAddsSpec)) sessionAddsUptoCard

/-- THE SECOND FORM's CARD OF 'stelelaw39.SessionAppends'. -/
def sessionAppendsUptoCard : Claim7 := { stood := { row := sessionAppendsUptoRow, standIns := [], harness := (true, "18acd78542348af87a5262340263cbe922d9e805fcb623b669302bcaf7d5c735"), looks := true }, kinds := [], alts := [], laidByText := true, laidKinds := [.data, .data, .data, .data, .sentinel, .sentinel, .pinned], laidTests := true, laidLooks := .later }
def SessionAppendsUptoCardSaid : Prop := Claim7.holds Tryz.pinned (.plain (OpenSpec.upto sessionAppendsSpec)) sessionAppendsUptoCard

/-- THE SECOND FORM's CARD OF 'stelelaw39.SessionAtomic'. -/
def sessionAtomicUptoCard : Claim7 := { stood := { row := sessionAtomicUptoRow, standIns := [], harness := (true, "18acd78542348af87a5262340263cbe922d9e805fcb623b669302bcaf7d5c735"), looks := true }, kinds := [], alts := [], laidByText := true, laidKinds := [.data, .data, .data, .data, .sentinel, .sentinel, .pinned], laidTests := true, laidLooks := .later }
def SessionAtomicUptoCardSaid : Prop := Claim7.holds Tryz.pinned (.plain (OpenSpec.upto sessionAtomicSpec)) sessionAtomicUptoCard

/-- THE SECOND FORM's CARD OF 'stelelaw39.SessionContents'. -/
def sessionContentsUptoCard : Claim7 := { stood := { row := sessionContentsUptoRow, standIns := [], harness := (true, "18acd78542348af87a5262340263cbe922d9e805fcb623b669302bcaf7d5c735"), looks := true }, kinds := [], alts := [], laidByText := true, laidKinds := [.data, .data, .data, .data, .sentinel, .sentinel, .pinned], laidTests := true, laidLooks := .later }
def SessionContentsUptoCardSaid : Prop := Claim7.holds Tryz.pinned (.plain (OpenSpec.upto sessionContentsSpec)) sessionContentsUptoCard

/-- THE SECOND FORM's CARD OF 'stelelaw39.SessionDeduplicates'. -/
def sessionDeduplicatesUptoCard : Claim7 := { stood := { row := sessionDeduplicatesUptoRow, standIns := [], harness := (true, "18acd78542348af87a5262340263cbe922d9e805fcb623b669302bcaf7d5c735"), looks := true }, kinds := [], alts := [], laidByText := true, laidKinds := [.data, .data, .data, .data, .sentinel, .sentinel, .pinned], laidTests := true, laidLooks := .later }
def SessionDeduplicatesUptoCardSaid : Prop := Claim7.holds Tryz.pinned (.plain (OpenSpec.upto sessionDeduplicatesSpec)) sessionDeduplicatesUptoCard

/-- THE SECOND FORM's CARD OF 'stelelaw39.SessionHolds'. -/
def sessionHoldsUptoCard : Claim7 := { stood := { row := sessionHoldsUptoRow, standIns := [], harness := (true, "18acd78542348af87a5262340263cbe922d9e805fcb623b669302bcaf7d5c735"), looks := true }, kinds := [], alts := [], laidByText := true, laidKinds := [.data, .data, .data, .data, .sentinel, .sentinel, .pinned], laidTests := true, laidLooks := .later }
def SessionHoldsUptoCardSaid : Prop := Claim7.holds Tryz.pinned (.plain (OpenSpec.upto sessionHoldsSpec)) sessionHoldsUptoCard

/-- THE SECOND FORM's CARD OF 'stelelaw39.SessionState'. -/
def sessionStateUptoCard : Claim7 := { stood := { row := sessionStateUptoRow, standIns := [], harness := (true, "18acd78542348af87a5262340263cbe922d9e805fcb623b669302bcaf7d5c735"), looks := true }, kinds := [], alts := [], laidByText := true, laidKinds := [.data, .data, .data, .data, .sentinel, .sentinel, .pinned], laidTests := true, laidLooks := .later }
def SessionStateUptoCardSaid : Prop := Claim7.holds Tryz.pinned (.plain (OpenSpec.upto sessionStateSpec)) sessionStateUptoCard

/-- THE SECOND FORM's CARD OF 'stelelaw39.SessionSplits'. -/
def sessionSplitsUptoCard : Claim7 := { stood := { row := sessionSplitsUptoRow, standIns := [], harness := (true, "18acd78542348af87a5262340263cbe922d9e805fcb623b669302bcaf7d5c735"), looks := true }, kinds := [], alts := [], laidByText := true, laidKinds := [.data, .data, .data, .data, .sentinel, .sentinel, .pinned], laidTests := true, laidLooks := .later }
def SessionSplitsUptoCardSaid : Prop := Claim7.holds Tryz.pinned (.plain (OpenSpec.upto sessionSplitsSpec)) sessionSplitsUptoCard
end Rows
end Go.Proofs.YtjdednajelommaaGreatDoor
