/-
  DERIVED. GIVEN WITH THE SEED: THE CARDS: each row of YtnnhgmpdfjljbaaDoorRows.lean that lists a variable, with what it lists TIED to the program's text (the seventh form; the later family's looks); each row that meets fmt, with fmt's text TOLD by the authors' own Lean function (tested against real Go, not proved from fmt's source: count such statements apart). THE CARD IS WHAT COUNTS. Prove the row's statement (the work); the ties are given (YtnnhgmpdfjljbaaDoorTie.lean); close each card by the builder's one call (the guide's Derived/Test/ToyasCard.lean, 'card_holds'). Laid BY PROGRAM, IN A SANDBOX (cutbox-door.mjs). By AI agents, Wed Nov 11 2026. No macro, syntax, notation, axiom, sorry.
-/
import Derived.Test.YtnnhgmpdfjljbaaDoorRows
import GoSem.ClaimSeven
namespace Go.Proofs.YtnnhgmpdfjljbaaDoor
namespace Rows

/-- THE TIED CARD OF 'stelelaw32.AttributeSet'. -/
def attributeSetCard : Claim7 := { stood := { row := attributeSetRow, standIns := [], harness := (true, "9358ac8b5f28ac33a41524a83dd8ece2d9ce071023be90b39078263b51b56b98"), looks := false }, kinds := [], alts := [], laidByText := true, laidKinds := [.data, .pinned], laidTests := true, laidLooks := .later }
def AttributeSetCardSaid : Prop := Claim7.holds Tryd.pinned (.plain (OpenSpec.ofChange attributeSetSpec)) attributeSetCard

/-- THE TIED CARD OF 'stelelaw32.AttributeMerge'. -/
def attributeMergeCard : Claim7 := { stood := { row := attributeMergeRow, standIns := [], harness := (true, "9358ac8b5f28ac33a41524a83dd8ece2d9ce071023be90b39078263b51b56b98"), looks := false }, kinds := [], alts := [], laidByText := true, laidKinds := [.data, .pinned], laidTests := true, laidLooks := .later }
def AttributeMergeCardSaid : Prop := Claim7.holds Tryd.pinned (.plain (OpenSpec.ofChange attributeMergeSpec)) attributeMergeCard

/-- THE TIED CARD OF 'stelelaw32.AttributeOrder'. -/
def attributeOrderCard : Claim7 := { stood := { row := attributeOrderRow, standIns := [], harness := (true, "9358ac8b5f28ac33a41524a83dd8ece2d9ce071023be90b39078263b51b56b98"), looks := false }, kinds := [], alts := [], laidByText := true, laidKinds := [.data, .pinned], laidTests := true, laidLooks := .later }
def AttributeOrderCardSaid : Prop := Claim7.holds Tryd.pinned (.plain (OpenSpec.ofChange attributeOrderSpec)) attributeOrderCard

/-- THE TIED CARD OF 'stelelaw32.AttributeMergeLaws'. -/
def attributeMergeLawsCard : Claim7 := { stood := { row := attributeMergeLawsRow, standIns := [], harness := (true, "9358ac8b5f28ac33a41524a83dd8ece2d9ce071023be90b39078263b51b56b98"), looks := false }, kinds := [], alts := [], laidByText := true, laidKinds := [.data, .pinned], laidTests := true, laidLooks := .later }
def AttributeMergeLawsCardSaid : Prop := Claim7.holds Tryd.pinned (.plain (OpenSpec.ofChange attributeMergeLawsSpec)) attributeMergeLawsCard

/-- THE TIED CARD OF 'stelelaw32.AttributeAssembly'. -/
def attributeAssemblyCard : Claim7 := { stood := { row := attributeAssemblyRow, standIns := [], harness := (true, "9358ac8b5f28ac33a41524a83dd8ece2d9ce071023be90b39078263b51b56b98"), looks := false }, kinds := [], alts := [], laidByText := true, laidKinds := [.data, .pinned], laidTests := true, laidLooks := .later }
def AttributeAssemblyCardSaid : Prop := Claim7.holds Tryd.pinned (.plain (OpenSpec.ofChange attributeAssemblySpec)) attributeAssemblyCard

/-- THE TIED CARD OF 'stelelaw32.AttributeResults'. -/
def attributeResultsCard : Claim7 := { stood := { row := attributeResultsRow, standIns := [], harness := (true, "9358ac8b5f28ac33a41524a83dd8ece2d9ce071023be90b39078263b51b56b98"), looks := false }, kinds := [], alts := [], laidByText := true, laidKinds := [.data, .pinned], laidTests := true, laidLooks := .later }
def AttributeResultsCardSaid : Prop := Claim7.holds Tryd.pinned (.plain (OpenSpec.ofChange attributeResultsSpec)) attributeResultsCard

/-- THE TIED CARD OF 'stelelaw32.AttributeGetAfterSet'. -/
def attributeGetAfterSetCard : Claim7 := { stood := { row := attributeGetAfterSetRow, standIns := [], harness := (true, "9358ac8b5f28ac33a41524a83dd8ece2d9ce071023be90b39078263b51b56b98"), looks := false }, kinds := [], alts := [], laidByText := true, laidKinds := [.data, .pinned], laidTests := true, laidLooks := .later }
def AttributeGetAfterSetCardSaid : Prop := Claim7.holds Tryd.pinned (.plain (OpenSpec.ofChange attributeGetAfterSetSpec)) attributeGetAfterSetCard

/-- THE SECOND FORM's CARD OF 'stelelaw32.AttributeSet'. -/
def attributeSetUptoCard : Claim7 := { stood := { row := attributeSetUptoRow, standIns := [], harness := (true, "9358ac8b5f28ac33a41524a83dd8ece2d9ce071023be90b39078263b51b56b98"), looks := false }, kinds := [], alts := [], laidByText := true, laidKinds := [.data, .pinned], laidTests := true, laidLooks := .later }
def AttributeSetUptoCardSaid : Prop := Claim7.holds Tryd.pinned (.plain (OpenSpec.upto attributeSetSpec)) attributeSetUptoCard

/-- THE SECOND FORM's CARD OF 'stelelaw32.AttributeMerge'. -/
def attributeMergeUptoCard : Claim7 := { stood := { row := attributeMergeUptoRow, standIns := [], harness := (true, "9358ac8b5f28ac33a41524a83dd8ece2d9ce071023be90b39078263b51b56b98"), looks := false }, kinds := [], alts := [], laidByText := true, laidKinds := [.data, .pinned], laidTests := true, laidLooks := .later }
def AttributeMergeUptoCardSaid : Prop := Claim7.holds Tryd.pinned (.plain (OpenSpec.upto attributeMergeSpec)) attributeMergeUptoCard

/-- THE SECOND FORM's CARD OF 'stelelaw32.AttributeOrder'. -/
def attributeOrderUptoCard : Claim7 := { stood := { row := attributeOrderUptoRow, standIns := [], harness := (true, "9358ac8b5f28ac33a41524a83dd8ece2d9ce071023be90b39078263b51b56b98"), looks := false }, kinds := [], alts := [], laidByText := true, laidKinds := [.data, .pinned], laidTests := true, laidLooks := .later }
def AttributeOrderUptoCardSaid : Prop := Claim7.holds Tryd.pinned (.plain (OpenSpec.upto attributeOrderSpec)) attributeOrderUptoCard

/-- THE SECOND FORM's CARD OF 'stelelaw32.AttributeMergeLaws'. -/
def attributeMergeLawsUptoCard : Claim7 := { stood := { row := attributeMergeLawsUptoRow, standIns := [], harness := (true, "9358ac8b5f28ac33a41524a83dd8ece2d9ce071023be90b39078263b51b56b98"), looks := false }, kinds := [], alts := [], laidByText := true, laidKinds := [.data, .pinned], laidTests := true, laidLooks := .later }
def AttributeMergeLawsUptoCardSaid : Prop := Claim7.holds Tryd.pinned (.plain (OpenSpec.upto attributeMergeLawsSpec)) attributeMergeLawsUptoCard

/-- THE SECOND FORM's CARD OF 'stelelaw32.AttributeAssembly'. -/
def attributeAssemblyUptoCard : Claim7 := { stood := { row := attributeAssemblyUptoRow, standIns := [], harness := (true, "9358ac8b5f28ac33a41524a83dd8ece2d9ce071023be90b39078263b51b56b98"), looks := false }, kinds := [], alts := [], laidByText := true, laidKinds := [.data, .pinned], laidTests := true, laidLooks := .later }
def AttributeAssemblyUptoCardSaid : Prop := Claim7.holds Tryd.pinned (.plain (OpenSpec.upto attributeAssemblySpec)) attributeAssemblyUptoCard

/-- THE SECOND FORM's CARD OF 'stelelaw32.AttributeResults'. -/
def attributeResultsUptoCard : Claim7 := { stood := { row := attributeResultsUptoRow, standIns := [], harness := (true, "9358ac8b5f28ac33a41524a83dd8ece2d9ce071023be90b39078263b51b56b98"), looks := false }, kinds := [], alts := [], laidByText := true, laidKinds := [.data, .pinned], laidTests := true, laidLooks := .later }
def AttributeResultsUptoCardSaid : Prop := Claim7.holds Tryd.pinned (.plain (OpenSpec.upto attributeResultsSpec)) attributeResultsUptoCard

/-- THE SECOND FORM's CARD OF 'stelelaw32.AttributeGetAfterSet'. -/
def attributeGetAfterSetUptoCard : Claim7 := { stood := { row := attributeGetAfterSetUptoRow, standIns := [], harness := (true, "9358ac8b5f28ac33a41524a83dd8ece2d9ce071023be90b39078263b51b56b98"), looks := false }, kinds := [], alts := [], laidByText := true, laidKinds := [.data, .pinned], laidTests := true, laidLooks := .later }
def AttributeGetAfterSetUptoCardSaid : Prop := Claim7.holds Tryd.pinned (.plain (OpenSpec.upto attributeGetAfterSetSpec)) attributeGetAfterSetUptoCard
end Rows
end Go.Proofs.YtnnhgmpdfjljbaaDoor
