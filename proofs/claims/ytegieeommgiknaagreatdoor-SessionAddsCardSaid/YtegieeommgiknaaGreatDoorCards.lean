/-
  DERIVED. GIVEN WITH THE SEED: THE CARDS: each row of YtegieeommgiknaaGreatDoorRows.lean that lists a variable, with what it lists TIED to the program's text (the seventh form; the later family's looks); each row that meets fmt, with fmt's text TOLD by the authors' own Lean function (tested against real Go, not proved from fmt's source: count such statements apart). THE CARD IS WHAT COUNTS. Prove the row's statement (the work); the ties are given (YtegieeommgiknaaGreatDoorTie.lean); close each card by the builder's one call (the guide's Derived/Test/ToyasCard.lean, 'card_holds'). Laid BY PROGRAM, IN A SANDBOX (cutbox-door.mjs). By AI agents, Wed Nov 11 2026. No macro, syntax, notation, axiom, sorry.
-/
import Derived.Test.YtegieeommgiknaaGreatDoorRows
import GoSem.ClaimSeven
namespace Go.Proofs.YtegieeommgiknaaGreatDoor
namespace Rows

/-- THE TIED CARD OF 'stelelaw39.SessionWrites'. -/
def sessionWritesCard : Claim7 := { stood := { row := sessionWritesRow, standIns := [], harness := (true, "3deb6624f8f0c7d15106b61ff9f92153ca229a6382f9d00e519551a06fa3730b"), looks := true }, kinds := [], alts := [], laidByText := true, laidKinds := [.data, .data, .data, .data, .sentinel, .sentinel, .pinned], laidTests := true, laidLooks := .later }
def SessionWritesCardSaid : Prop := Claim7.holds Tryz.pinned (.plain (OpenSpec.ofChange sessionWritesSpec)) sessionWritesCard

/-- THE TIED CARD OF 'stelelaw39.SessionAdds'. -/
def sessionAddsCard : Claim7 := { stood := { row := sessionAddsRow, standIns := [], harness := (true, "3deb6624f8f0c7d15106b61ff9f92153ca229a6382f9d00e519551a06fa3730b"), looks := true }, kinds := [], alts := [], laidByText := true, laidKinds := [.data, .data, .data, .data, .sentinel, .sentinel, .pinned], laidTests := true, laidLooks := .later }
def SessionAddsCardSaid : Prop := Claim7.holds Tryz.pinned (.plain (OpenSpec.ofChange sessionAddsSpec)) sessionAddsCard

/-- THE SECOND FORM's CARD OF 'stelelaw39.SessionWrites'. -/
def sessionWritesUptoCard : Claim7 := { stood := { row := sessionWritesUptoRow, standIns := [], harness := (true, "3deb6624f8f0c7d15106b61ff9f92153ca229a6382f9d00e519551a06fa3730b"), looks := true }, kinds := [], alts := [], laidByText := true, laidKinds := [.data, .data, .data, .data, .sentinel, .sentinel, .pinned], laidTests := true, laidLooks := .later }
def SessionWritesUptoCardSaid : Prop := Claim7.holds Tryz.pinned (.plain (OpenSpec.upto sessionWritesSpec)) sessionWritesUptoCard

/-- THE SECOND FORM's CARD OF 'stelelaw39.SessionAdds'. -/
def sessionAddsUptoCard : Claim7 := { stood := { row := sessionAddsUptoRow, standIns := [], harness := (true, "3deb6624f8f0c7d15106b61ff9f92153ca229a6382f9d00e519551a06fa3730b"), looks := true }, kinds := [], alts := [], laidByText := true, laidKinds := [.data, .data, .data, .data, .sentinel, .sentinel, .pinned], laidTests := true, laidLooks := .later }
def SessionAddsUptoCardSaid : Prop := Claim7.holds Tryz.pinned (.plain (OpenSpec.upto sessionAddsSpec)) sessionAddsUptoCard
end Rows
end Go.Proofs.YtegieeommgiknaaGreatDoor
