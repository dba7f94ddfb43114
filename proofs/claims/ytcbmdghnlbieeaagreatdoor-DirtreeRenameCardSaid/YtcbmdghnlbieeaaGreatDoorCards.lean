/-
  DERIVED. GIVEN WITH THE SEED: THE CARDS: each row of YtcbmdghnlbieeaaGreatDoorRows.lean that lists a variable, with what it lists TIED to the program's text (the seventh form; the later family's looks); each row that meets fmt, with fmt's text TOLD by the authors' own Lean function (tested against real Go, not proved from fmt's source: count such statements apart). THE CARD IS WHAT COUNTS. Prove the row's statement (the work); the ties are given (YtcbmdghnlbieeaaGreatDoorTie.lean); close each card by the builder's one call (the guide's Derived/Test/ToyasCard.lean, 'card_holds'). Laid BY PROGRAM, IN A SANDBOX (cutbox-door.mjs). By AI agents, Wed Nov 11 2026. No macro, syntax, notation, axiom, sorry.
-/
import Derived.Test.YtcbmdghnlbieeaaGreatDoorRows
import GoSem.ClaimSeven
namespace Go.Proofs.YtcbmdghnlbieeaaGreatDoor
namespace Rows

/-- THE TIED CARD OF 'stelelaw37.DirtreeApplies'. -/
def dirtreeAppliesCard : Claim7 := { stood := { row := dirtreeAppliesRow, standIns := [], harness := (true, "eec0d5612baa64a3229f16033e416e2670cd7e7b277b87c34fefe3d96faa777a"), looks := true }, kinds := [], alts := [], laidByText := true, laidKinds := [.data, .data, .data, .data, .sentinel, .sentinel, .pinned], laidTests := true, laidLooks := .later }
def DirtreeAppliesCardSaid : Prop := Claim7.holds Tryz.pinned (.plain (OpenSpec.ofChange dirtreeAppliesSpec)) dirtreeAppliesCard

/-- THE TIED CARD OF 'stelelaw37.DirtreeCommutes'. -/
def dirtreeCommutesCard : Claim7 := { stood := { row := dirtreeCommutesRow, standIns := [], harness := (true, "eec0d5612baa64a3229f16033e416e2670cd7e7b277b87c34fefe3d96faa777a"), looks := true }, kinds := [], alts := [], laidByText := true, laidKinds := [.data, .data, .data, .data, .sentinel, .sentinel, .pinned], laidTests := true, laidLooks := .later }
def DirtreeCommutesCardSaid : Prop := Claim7.holds Tryz.pinned (.plain (OpenSpec.ofChange dirtreeCommutesSpec)) dirtreeCommutesCard

/-- THE TIED CARD OF 'stelelaw37.DirtreeChecks'. -/
def dirtreeChecksCard : Claim7 := { stood := { row := dirtreeChecksRow, standIns := [], harness := (true, "eec0d5612baa64a3229f16033e416e2670cd7e7b277b87c34fefe3d96faa777a"), looks := true }, kinds := [], alts := [], laidByText := true, laidKinds := [.data, .data, .data, .data, .sentinel, .sentinel, .pinned], laidTests := true, laidLooks := .later }
def DirtreeChecksCardSaid : Prop := Claim7.holds Tryz.pinned (.plain (OpenSpec.ofChange dirtreeChecksSpec)) dirtreeChecksCard

/-- THE TIED CARD OF 'stelelaw37.DirtreeInvariant'. -/
def dirtreeInvariantCard : Claim7 := { stood := { row := dirtreeInvariantRow, standIns := [], harness := (true, "eec0d5612baa64a3229f16033e416e2670cd7e7b277b87c34fefe3d96faa777a"), looks := true }, kinds := [], alts := [], laidByText := true, laidKinds := [.data, .data, .data, .data, .sentinel, .sentinel, .pinned], laidTests := true, laidLooks := .later }
def DirtreeInvariantCardSaid : Prop := Claim7.holds Tryz.pinned (.plain (OpenSpec.ofChange dirtreeInvariantSpec)) dirtreeInvariantCard

/-- THE TIED CARD OF 'stelelaw37.DirtreeQueries'. -/
def dirtreeQueriesCard : Claim7 := { stood := { row := dirtreeQueriesRow, standIns := [], harness := (true, "eec0d5612baa64a3229f16033e416e2670cd7e7b277b87c34fefe3d96faa777a"), looks := true }, kinds := [], alts := [], laidByText := true, laidKinds := [.data, .data, .data, .data, .sentinel, .sentinel, .pinned], laidTests := true, laidLooks := .later }
def DirtreeQueriesCardSaid : Prop := Claim7.holds Tryz.pinned (.plain (OpenSpec.ofChange dirtreeQueriesSpec)) dirtreeQueriesCard

/-- THE TIED CARD OF 'stelelaw37.DirtreeLocal'. -/
def dirtreeLocalCard : Claim7 := { stood := { row := dirtreeLocalRow, standIns := [], harness := (true, "eec0d5612baa64a3229f16033e416e2670cd7e7b277b87c34fefe3d96faa777a"), looks := true }, kinds := [], alts := [], laidByText := true, laidKinds := [.data, .data, .data, .data, .sentinel, .sentinel, .pinned], laidTests := true, laidLooks := .later }
def DirtreeLocalCardSaid : Prop := Claim7.holds Tryz.pinned (.plain (OpenSpec.ofChange dirtreeLocalSpec)) dirtreeLocalCard

/-- THE TIED CARD OF 'stelelaw37.DirtreeRename'. -/
def dirtreeRenameCard : Claim7 := { stood := { row := dirtreeRenameRow, standIns := [], harness := (true, "eec0d5612baa64a3229f16033e416e2670cd7e7b277b87c34fefe3d96faa777a"), looks := true }, kinds := [], alts := [], laidByText := true, laidKinds := [.data, .data, .data, .data, .sentinel, .sentinel, .pinned], laidTests := true, laidLooks := .later }
def DirtreeRenameCardSaid : Prop := Claim7.holds Tryz.pinned (.plain (OpenSpec.ofChange dirtreeRenameSpec)) dirtreeRenameCard

/-- THE TIED CARD OF 'stelelaw37.DirtreeDiffers'. -/
def dirtreeDiffersCard : Claim7 := { stood := { row := dirtreeDiffersRow, standIns := [], harness := (true, "eec0d5612baa64a3229f16033e416e2670cd7e7b277b87c34fefe3d96faa777a"), looks := true }, kinds := [], alts := [], laidByText := true, laidKinds := [.data, .data, .data, .data, .sentinel, .sentinel, .pinned], laidTests := true, laidLooks := .later }
def DirtreeDiffersCardSaid : Prop := Claim7.holds Tryz.pinned (.plain (OpenSpec.ofChange dirtreeDiffersSpec)) dirtreeDiffersCard

/-- THE TIED CARD OF 'stelelaw37.DirtreeMerkle'. -/
def dirtreeMerkleCard : Claim7 := { stood := { row := dirtreeMerkleRow, standIns := [], harness := (true, "eec0d5612baa64a3229f16033e416e2670cd7e7b277b87c34fefe3d96faa777a"), looks := true }, kinds := [], alts := [], laidByText := true, laidKinds := [.data, .data, .data, .data, .sentinel, .sentinel, .pinned], laidTests := true, laidLooks := .later }
def DirtreeMerkleCardSaid : Prop := Claim7.holds Tryz.pinned (.plain (OpenSpec.ofChange dirtreeMerkleSpec)) dirtreeMerkleCard

/-- THE SECOND FORM's CARD OF 'stelelaw37.DirtreeApplies'. -/
def dirtreeAppliesUptoCard : Claim7 := { stood := { row := dirtreeAppliesUptoRow, standIns := [], harness := (true, "eec0d5612baa64a3229f16033e416e2670cd7e7b277b87c34fefe3d96faa777a"), looks := true }, kinds := [], alts := [], laidByText := true, laidKinds := [.data, .data, .data, .data, .sentinel, .sentinel, .pinned], laidTests := true, laidLooks := .later }
def DirtreeAppliesUptoCardSaid : Prop := Claim7.holds Tryz.pinned (.plain (OpenSpec.upto dirtreeAppliesSpec)) dirtreeAppliesUptoCard

/-- THE SECOND FORM's CARD OF 'stelelaw37.DirtreeCommutes'. -/
def dirtreeCommutesUptoCard : Claim7 := { stood := { row := dirtreeCommutesUptoRow, standIns := [], harness := (true, "eec0d5612baa64a3229f16033e416e2670cd7e7b277b87c34fefe3d96faa777a"), looks := true }, kinds := [], alts := [], laidByText := true, laidKinds := [.data, .data, .data, .data, .sentinel, .sentinel, .pinned], laidTests := true, laidLooks := .later }
def DirtreeCommutesUptoCardSaid : Prop := Claim7.holds Tryz.pinned (.plain (OpenSpec.upto dirtreeCommutesSpec)) dirtreeCommutesUptoCard

/-- THE SECOND FORM's CARD OF 'stelelaw37.DirtreeChecks'. -/
def dirtreeChecksUptoCard : Claim7 := { stood := { row := dirtreeChecksUptoRow, standIns := [], harness := (true, "eec0d5612baa64a3229f16033e416e2670cd7e7b277b87c34fefe3d96faa777a"), looks := true }, kinds := [], alts := [], laidByText := true, laidKinds := [.data, .data, .data, .data, .sentinel, .sentinel, .pinned], laidTests := true, laidLooks := .later }
def DirtreeChecksUptoCardSaid : Prop := Claim7.holds Tryz.pinned (.plain (OpenSpec.upto dirtreeChecksSpec)) dirtreeChecksUptoCard

/-- THE SECOND FORM's CARD OF 'stelelaw37.DirtreeInvariant'. -/
def dirtreeInvariantUptoCard : Claim7 := { stood := { row := dirtreeInvariantUptoRow, standIns := [], harness := (true, "eec0d5612baa64a3229f16033e416e2670cd7e7b277b87c34fefe3d96faa777a"), looks := true }, kinds := [], alts := [], laidByText := true, laidKinds := [.data, .data, .data, .data, .sentinel, .sentinel, .pinned], laidTests := true, laidLooks := .later }
def DirtreeInvariantUptoCardSaid : Prop := Claim7.holds Tryz.pinned (.plain (OpenSpec.upto dirtreeInvariantSpec)) dirtreeInvariantUptoCard

/-- THE SECOND FORM's CARD OF 'stelelaw37.DirtreeQueries'. -/
def dirtreeQueriesUptoCard : Claim7 := { stood := { row := dirtreeQueriesUptoRow, standIns := [], harness := (true, "eec0d5612baa64a3229f16033e416e2670cd7e7b277b87c34fefe3d96faa777a"), looks := true }, kinds := [], alts := [], laidByText := true, laidKinds := [.data, .data, .data, .data, .sentinel, .sentinel, .pinned], laidTests := true, laidLooks := .later }
def DirtreeQueriesUptoCardSaid : Prop := Claim7.holds Tryz.pinned (.plain (OpenSpec.upto dirtreeQueriesSpec)) dirtreeQueriesUptoCard

/-- THE SECOND FORM's CARD OF 'stelelaw37.DirtreeLocal'. -/
def dirtreeLocalUptoCard : Claim7 := { stood := { row := dirtreeLocalUptoRow, standIns := [], harness := (true, "eec0d5612baa64a3229f16033e416e2670cd7e7b277b87c34fefe3d96faa777a"), looks := true }, kinds := [], alts := [], laidByText := true, laidKinds := [.data, .data, .data, .data, .sentinel, .sentinel, .pinned], laidTests := true, laidLooks := .later }
def DirtreeLocalUptoCardSaid : Prop := Claim7.holds Tryz.pinned (.plain (OpenSpec.upto dirtreeLocalSpec)) dirtreeLocalUptoCard

/-- THE SECOND FORM's CARD OF 'stelelaw37.DirtreeRename'. -/
def dirtreeRenameUptoCard : Claim7 := { stood := { row := dirtreeRenameUptoRow, standIns := [], harness := (true, "eec0d5612baa64a3229f16033e416e2670cd7e7b277b87c34fefe3d96faa777a"), looks := true }, kinds := [], alts := [], laidByText := true, laidKinds := [.data, .data, .data, .data, .sentinel, .sentinel, .pinned], laidTests := true, laidLooks := .later }
def DirtreeRenameUptoCardSaid : Prop := Claim7.holds Tryz.pinned (.plain (OpenSpec.upto dirtreeRenameSpec)) dirtreeRenameUptoCard

/-- THE SECOND FORM's CARD OF 'stelelaw37.DirtreeDiffers'. -/
def dirtreeDiffersUptoCard : Claim7 := { stood := { row := dirtreeDiffersUptoRow, standIns := [], harness := (true, "eec0d5612baa64a3229f16033e416e2670cd7e7b277b87c34fefe3d96faa777a"), looks := true }, kinds := [], alts := [], laidByText := true, laidKinds := [.data, .data, .data, .data, .sentinel, .sentinel, .pinned], laidTests := true, laidLooks := .later }
def DirtreeDiffersUptoCardSaid : Prop := Claim7.holds Tryz.pinned (.plain (OpenSpec.upto dirtreeDiffersSpec)) dirtreeDiffersUptoCard

/-- THE SECOND FORM's CARD OF 'stelelaw37.DirtreeMerkle'. -/
def dirtreeMerkleUptoCard : Claim7 := { stood := { row := dirtreeMerkleUptoRow, standIns := [], harness := (true, "eec0d5612baa64a3229f16033e416e2670cd7e7b277b87c34fefe3d96faa777a"), looks := true }, kinds := [], alts := [], laidByText := true, laidKinds := [.data, .data, .data, .data, .sentinel, .sentinel, .pinned], laidTests := true, laidLooks := .later }
def DirtreeMerkleUptoCardSaid : Prop := Claim7.holds Tryz.pinned (.plain (OpenSpec.upto dirtreeMerkleSpec)) dirtreeMerkleUptoCard
end Rows
end Go.Proofs.YtcbmdghnlbieeaaGreatDoor
