/-
  NARROWER THAN 'FOR EVERY INPUT', by the rows' own cells (each row's printed sentence says how): AttributeSet: laid · AttributeMerge: laid · AttributeOrder: laid · AttributeMergeLaws: laid · AttributeAssembly: laid · AttributeResults: laid · AttributeGetAfterSet: laid.
  DERIVED. THE GIVEN ROWS OF THIS SEAT. 7 by the template 'for every input the law returns true; each argument reads behind the call as it read before'; 0 by the template 'total and deterministic' (their statements: YtnnhgmpdfjljbaaDoorTotals.lean).
  GIVEN WITH THE SEED: the statements are not yours to turn. If you find one false, say at which input.
  Laid BY PROGRAM, IN A SANDBOX (cutbox-rows.mjs): the forced cells as the released guide's own fill.sh prints them over the translation 98eec6205fcf4f49… (all of the seat's roots in one cut). By AI agents, Wed Nov 11 2026. No macro, syntax, notation, axiom, sorry.
-/
import Derived.Test.YtnnhgmpdfjljbaaDoorChecked
import GoSem.PinnedTables
import GoSem.Claim
import GoSem.ClaimJoined
import GoSem.ClaimMapViews
import Derived.JoinedTies
import Derived.KernelRfl
namespace Go.Proofs.YtnnhgmpdfjljbaaDoor
/- THE CELL 'sum', in the pinned program and in every row, IS THE sha256 OF THE DUMP (.gsa) THAT YtnnhgmpdfjljbaaDoorProg.lean LOADS. Nothing in Lean hashes anything: it is a label: what it is worth is what the hold of that sum in a sandbox is worth. -/
noncomputable def Tryd.pinned : Pinned := { name := "ytnnhgmpdfjljbaadoor", sum := "98eec6205fcf4f490af8e10b3213178a717d48295d21cd025078aea37023d49a", checked := Tryd.checked }
namespace Rows
def none {H : Type} : Left H := { results := [], args := [] }

/- WHAT THE LISTED PACKAGE-LEVEL VARIABLES READ AS WHEN THE CALL BEGINS. Each datum BY PROGRAM (the guide's laid-datum.mjs) off the statement by which the dump's own 'gosem.cut.vars' lays the variable. In a bare row this is a premise. The card (YtnnhgmpdfjljbaaDoorCards.lean) ties it to the program's text. -/
def laid_unicode_utf8_acceptRanges {H : Type} : DataW H := .agg [.agg [.lit (.int .u8 128), .lit (.int .u8 191)], .agg [.lit (.int .u8 160), .lit (.int .u8 191)], .agg [.lit (.int .u8 128), .lit (.int .u8 159)], .agg [.lit (.int .u8 144), .lit (.int .u8 191)], .agg [.lit (.int .u8 128), .lit (.int .u8 143)], .agg [.lit (.int .u8 0), .lit (.int .u8 0)], .agg [.lit (.int .u8 0), .lit (.int .u8 0)], .agg [.lit (.int .u8 0), .lit (.int .u8 0)], .agg [.lit (.int .u8 0), .lit (.int .u8 0)], .agg [.lit (.int .u8 0), .lit (.int .u8 0)], .agg [.lit (.int .u8 0), .lit (.int .u8 0)], .agg [.lit (.int .u8 0), .lit (.int .u8 0)], .agg [.lit (.int .u8 0), .lit (.int .u8 0)], .agg [.lit (.int .u8 0), .lit (.int .u8 0)], .agg [.lit (.int .u8 0), .lit (.int .u8 0)], .agg [.lit (.int .u8 0), .lit (.int .u8 0)]]
/-- One of Go's own tables, pinned by name: the form's constant. -/
def laid_unicode_utf8_first : DataW Unit := Go.Pinned.utf8First

/-- 'stelelaw32.AttributeSet': WHATEVER THE INPUT: true; the input reads as it did. -/
def attributeSetSpec : ChangeSpec := { name := "attributeSet", fn := fun _ => fun
  | [d1, d2, d3] => { results := [.lit (.bool true)], args := [d1, d2, d3] }
  | _ => none }
def attributeSetRow : OpenClaim := { program := "ytnnhgmpdfjljbaadoor", sum := "98eec6205fcf4f490af8e10b3213178a717d48295d21cd025078aea37023d49a", func := "stele/stelelaw32.AttributeSet", spec := "attributeSet", inPlace := ["internal/bytealg.IndexByteString", "internal/bytealg.IndexString", "internal/bytealg.abigen_runtime_cmpstring"], unfollowed := true, recurses := true, named := ["unicode/utf8.first", "unicode/utf8.acceptRanges", "internal/bytealg.MaxLen"], apart := false, laid := [("unicode/utf8.acceptRanges", laid_unicode_utf8_acceptRanges), ("unicode/utf8.first", laid_unicode_utf8_first)] }
def AttributeSetSaid : Prop := attributeSetRow.holds Tryd.pinned (OpenSpec.ofChange attributeSetSpec)

/-- ITS FALSE NEIGHBOUR: 'it returns false'. Refute it at one input. -/
def attributeSetWrong : ChangeSpec := { name := "attributeSet", fn := fun _ => fun
  | [d1, d2, d3] => { results := [.lit (.bool false)], args := [d1, d2, d3] }
  | _ => none }
def AttributeSetWrongFalsely : Prop := attributeSetRow.holds Tryd.pinned (OpenSpec.ofChange attributeSetWrong)

/-- 'stelelaw32.AttributeMerge': WHATEVER THE INPUT: true; the input reads as it did. -/
def attributeMergeSpec : ChangeSpec := { name := "attributeMerge", fn := fun _ => fun
  | [d1, d2] => { results := [.lit (.bool true)], args := [d1, d2] }
  | _ => none }
def attributeMergeRow : OpenClaim := { program := "ytnnhgmpdfjljbaadoor", sum := "98eec6205fcf4f490af8e10b3213178a717d48295d21cd025078aea37023d49a", func := "stele/stelelaw32.AttributeMerge", spec := "attributeMerge", inPlace := ["internal/bytealg.IndexByteString", "internal/bytealg.IndexString", "internal/bytealg.abigen_runtime_cmpstring"], unfollowed := true, recurses := true, named := ["unicode/utf8.first", "unicode/utf8.acceptRanges", "internal/bytealg.MaxLen"], apart := false, laid := [("unicode/utf8.acceptRanges", laid_unicode_utf8_acceptRanges), ("unicode/utf8.first", laid_unicode_utf8_first)] }
def AttributeMergeSaid : Prop := attributeMergeRow.holds Tryd.pinned (OpenSpec.ofChange attributeMergeSpec)

/-- ITS FALSE NEIGHBOUR: 'it returns false'. Refute it at one input. -/
def attributeMergeWrong : ChangeSpec := { name := "attributeMerge", fn := fun _ => fun
  | [d1, d2] => { results := [.lit (.bool false)], args := [d1, d2] }
  | _ => none }
def AttributeMergeWrongFalsely : Prop := attributeMergeRow.holds Tryd.pinned (OpenSpec.ofChange attributeMergeWrong)

/-- 'stelelaw32.AttributeOrder': WHATEVER THE INPUT: true; the input reads as it did. -/
def attributeOrderSpec : ChangeSpec := { name := "attributeOrder", fn := fun _ => fun
  | [d1, d2, d3, d4, d5] => { results := [.lit (.bool true)], args := [d1, d2, d3, d4, d5] }
  | _ => none }
def attributeOrderRow : OpenClaim := { program := "ytnnhgmpdfjljbaadoor", sum := "98eec6205fcf4f490af8e10b3213178a717d48295d21cd025078aea37023d49a", func := "stele/stelelaw32.AttributeOrder", spec := "attributeOrder", inPlace := ["internal/bytealg.IndexByteString", "internal/bytealg.IndexString", "internal/bytealg.abigen_runtime_cmpstring"], unfollowed := true, recurses := true, named := ["unicode/utf8.first", "unicode/utf8.acceptRanges", "internal/bytealg.MaxLen"], apart := false, laid := [("unicode/utf8.acceptRanges", laid_unicode_utf8_acceptRanges), ("unicode/utf8.first", laid_unicode_utf8_first)] }
def AttributeOrderSaid : Prop := attributeOrderRow.holds Tryd.pinned (OpenSpec.ofChange attributeOrderSpec)

/-- ITS FALSE NEIGHBOUR: 'it returns false'. Refute it at one input. -/
def attributeOrderWrong : ChangeSpec := { name := "attributeOrder", fn := fun _ => fun
  | [d1, d2, d3, d4, d5] => { results := [.lit (.bool false)], args := [d1, d2, d3, d4, d5] }
  | _ => none }
def AttributeOrderWrongFalsely : Prop := attributeOrderRow.holds Tryd.pinned (OpenSpec.ofChange attributeOrderWrong)

/-- 'stelelaw32.AttributeMergeLaws': WHATEVER THE INPUT: true; the input reads as it did. -/
def attributeMergeLawsSpec : ChangeSpec := { name := "attributeMergeLaws", fn := fun _ => fun
  | [d1, d2, d3] => { results := [.lit (.bool true)], args := [d1, d2, d3] }
  | _ => none }
def attributeMergeLawsRow : OpenClaim := { program := "ytnnhgmpdfjljbaadoor", sum := "98eec6205fcf4f490af8e10b3213178a717d48295d21cd025078aea37023d49a", func := "stele/stelelaw32.AttributeMergeLaws", spec := "attributeMergeLaws", inPlace := ["internal/bytealg.IndexByteString", "internal/bytealg.IndexString", "internal/bytealg.abigen_runtime_cmpstring"], unfollowed := true, recurses := true, named := ["unicode/utf8.first", "unicode/utf8.acceptRanges", "internal/bytealg.MaxLen"], apart := false, laid := [("unicode/utf8.acceptRanges", laid_unicode_utf8_acceptRanges), ("unicode/utf8.first", laid_unicode_utf8_first)] }
def AttributeMergeLawsSaid : Prop := attributeMergeLawsRow.holds Tryd.pinned (OpenSpec.ofChange attributeMergeLawsSpec)

/-- ITS FALSE NEIGHBOUR: 'it returns false'. Refute it at one input. -/
def attributeMergeLawsWrong : ChangeSpec := { name := "attributeMergeLaws", fn := fun _ => fun
  | [d1, d2, d3] => { results := [.lit (.bool false)], args := [d1, d2, d3] }
  | _ => none }
def AttributeMergeLawsWrongFalsely : Prop := attributeMergeLawsRow.holds Tryd.pinned (OpenSpec.ofChange attributeMergeLawsWrong)

/-- 'stelelaw32.AttributeAssembly': WHATEVER THE INPUT: true; the input reads as it did. -/
def attributeAssemblySpec : ChangeSpec := { name := "attributeAssembly", fn := fun _ => fun
  | [d1, d2] => { results := [.lit (.bool true)], args := [d1, d2] }
  | _ => none }
def attributeAssemblyRow : OpenClaim := { program := "ytnnhgmpdfjljbaadoor", sum := "98eec6205fcf4f490af8e10b3213178a717d48295d21cd025078aea37023d49a", func := "stele/stelelaw32.AttributeAssembly", spec := "attributeAssembly", inPlace := ["internal/bytealg.IndexByteString", "internal/bytealg.IndexString", "internal/bytealg.abigen_runtime_cmpstring"], unfollowed := true, recurses := true, named := ["unicode/utf8.first", "unicode/utf8.acceptRanges", "internal/bytealg.MaxLen"], apart := false, laid := [("unicode/utf8.acceptRanges", laid_unicode_utf8_acceptRanges), ("unicode/utf8.first", laid_unicode_utf8_first)] }
def AttributeAssemblySaid : Prop := attributeAssemblyRow.holds Tryd.pinned (OpenSpec.ofChange attributeAssemblySpec)

/-- ITS FALSE NEIGHBOUR: 'it returns false'. Refute it at one input. -/
def attributeAssemblyWrong : ChangeSpec := { name := "attributeAssembly", fn := fun _ => fun
  | [d1, d2] => { results := [.lit (.bool false)], args := [d1, d2] }
  | _ => none }
def AttributeAssemblyWrongFalsely : Prop := attributeAssemblyRow.holds Tryd.pinned (OpenSpec.ofChange attributeAssemblyWrong)

/-- 'stelelaw32.AttributeResults': WHATEVER THE INPUT: true; the input reads as it did. -/
def attributeResultsSpec : ChangeSpec := { name := "attributeResults", fn := fun _ => fun
  | [d1, d2] => { results := [.lit (.bool true)], args := [d1, d2] }
  | _ => none }
def attributeResultsRow : OpenClaim := { program := "ytnnhgmpdfjljbaadoor", sum := "98eec6205fcf4f490af8e10b3213178a717d48295d21cd025078aea37023d49a", func := "stele/stelelaw32.AttributeResults", spec := "attributeResults", inPlace := ["internal/bytealg.IndexByteString", "internal/bytealg.IndexString", "internal/bytealg.abigen_runtime_cmpstring"], unfollowed := true, recurses := true, named := ["unicode/utf8.first", "unicode/utf8.acceptRanges", "internal/bytealg.MaxLen"], apart := false, laid := [("unicode/utf8.acceptRanges", laid_unicode_utf8_acceptRanges), ("unicode/utf8.first", laid_unicode_utf8_first)] }
def AttributeResultsSaid : Prop := attributeResultsRow.holds Tryd.pinned (OpenSpec.ofChange attributeResultsSpec)

/-- ITS FALSE NEIGHBOUR: 'it returns false'. Refute it at one input. -/
def attributeResultsWrong : ChangeSpec := { name := "attributeResults", fn := fun _ => fun
  | [d1, d2] => { results := [.lit (.bool false)], args := [d1, d2] }
  | _ => none }
def AttributeResultsWrongFalsely : Prop := attributeResultsRow.holds Tryd.pinned (OpenSpec.ofChange attributeResultsWrong)

/-- 'stelelaw32.AttributeGetAfterSet': WHATEVER THE INPUT: true; the input reads as it did. -/
def attributeGetAfterSetSpec : ChangeSpec := { name := "attributeGetAfterSet", fn := fun _ => fun
  | [d1, d2, d3, d4] => { results := [.lit (.bool true)], args := [d1, d2, d3, d4] }
  | _ => none }
def attributeGetAfterSetRow : OpenClaim := { program := "ytnnhgmpdfjljbaadoor", sum := "98eec6205fcf4f490af8e10b3213178a717d48295d21cd025078aea37023d49a", func := "stele/stelelaw32.AttributeGetAfterSet", spec := "attributeGetAfterSet", inPlace := ["internal/bytealg.IndexByteString", "internal/bytealg.IndexString", "internal/bytealg.abigen_runtime_cmpstring"], unfollowed := true, recurses := true, named := ["unicode/utf8.first", "unicode/utf8.acceptRanges", "internal/bytealg.MaxLen"], apart := false, laid := [("unicode/utf8.acceptRanges", laid_unicode_utf8_acceptRanges), ("unicode/utf8.first", laid_unicode_utf8_first)] }
def AttributeGetAfterSetSaid : Prop := attributeGetAfterSetRow.holds Tryd.pinned (OpenSpec.ofChange attributeGetAfterSetSpec)

/-- ITS FALSE NEIGHBOUR: 'it returns false'. Refute it at one input. -/
def attributeGetAfterSetWrong : ChangeSpec := { name := "attributeGetAfterSet", fn := fun _ => fun
  | [d1, d2, d3, d4] => { results := [.lit (.bool false)], args := [d1, d2, d3, d4] }
  | _ => none }
def AttributeGetAfterSetWrongFalsely : Prop := attributeGetAfterSetRow.holds Tryd.pinned (OpenSpec.ofChange attributeGetAfterSetWrong)

/- THE SECOND FORM. 'bulk': how many values and letters a reading holds, each counted each time it is reached (what is shared counts as often as it is met; a slice's spare places count too). A statement '..UptoSaid' is the law's where the arguments, and the package variables that the reading takes, are together of bulk at most 1048576: NARROWER than '..Said'. Prove '..Said' where nothing that the law and all that it calls make is longer than what came in: it says more and counts as full. Else prove '..UptoSaid'. A law counts once. -/
mutual
def uptoBulk {H : Type} : DataW H → Nat
  | .lit (.string bytes) => bytes.length + 1
  | .lit _ => 1
  | .nil => 1
  | .ptr d => uptoBulk d + 1
  | .slice elems spare => uptoBulkAll elems + uptoBulkAll spare + 1
  | .agg parts => uptoBulkAll parts + 1
  | .iface _ d => uptoBulk d + 1
  | .map entries => uptoBulkEntries entries + 1
  | .held _ => 1
def uptoBulkAll {H : Type} : List (DataW H) → Nat
  | [] => 0
  | d :: r => uptoBulk d + uptoBulkAll r
def uptoBulkEntries {H : Type} : List (Lit × DataW H) → Nat
  | [] => 0
  | x :: r => uptoBulkEntry x + uptoBulkEntries r
def uptoBulkEntry {H : Type} : Lit × DataW H → Nat
  | (.string bytes, d) => bytes.length + uptoBulk d + 1
  | (_, d) => uptoBulk d + 1
 end
def uptoSmall : (H : Type) → List (DataW H) → Bool := fun _ ds => decide (uptoBulkAll ds ≤ 1048576)
def OpenSpec.upto (s : _root_.Go.ChangeSpec) : _root_.Go.OpenSpec := { _root_.Go.OpenSpec.ofChange s with cond := some uptoSmall }

/-- 'stelelaw32.AttributeSet', WHERE WHAT IT READS IS OF BULK AT MOST 1048576: true; the input reads as it did. -/
def attributeSetUptoRow : OpenClaim := { program := "ytnnhgmpdfjljbaadoor", sum := "98eec6205fcf4f490af8e10b3213178a717d48295d21cd025078aea37023d49a", func := "stele/stelelaw32.AttributeSet", spec := "attributeSet", inPlace := ["internal/bytealg.IndexByteString", "internal/bytealg.IndexString", "internal/bytealg.abigen_runtime_cmpstring"], unfollowed := true, recurses := true, named := ["unicode/utf8.first", "unicode/utf8.acceptRanges", "internal/bytealg.MaxLen"], apart := false, laid := [("unicode/utf8.acceptRanges", laid_unicode_utf8_acceptRanges), ("unicode/utf8.first", laid_unicode_utf8_first)], narrowed := true }
def AttributeSetUptoSaid : Prop := attributeSetUptoRow.holds Tryd.pinned (OpenSpec.upto attributeSetSpec)

/-- 'stelelaw32.AttributeMerge', WHERE WHAT IT READS IS OF BULK AT MOST 1048576: true; the input reads as it did. -/
def attributeMergeUptoRow : OpenClaim := { program := "ytnnhgmpdfjljbaadoor", sum := "98eec6205fcf4f490af8e10b3213178a717d48295d21cd025078aea37023d49a", func := "stele/stelelaw32.AttributeMerge", spec := "attributeMerge", inPlace := ["internal/bytealg.IndexByteString", "internal/bytealg.IndexString", "internal/bytealg.abigen_runtime_cmpstring"], unfollowed := true, recurses := true, named := ["unicode/utf8.first", "unicode/utf8.acceptRanges", "internal/bytealg.MaxLen"], apart := false, laid := [("unicode/utf8.acceptRanges", laid_unicode_utf8_acceptRanges), ("unicode/utf8.first", laid_unicode_utf8_first)], narrowed := true }
def AttributeMergeUptoSaid : Prop := attributeMergeUptoRow.holds Tryd.pinned (OpenSpec.upto attributeMergeSpec)

/-- 'stelelaw32.AttributeOrder', WHERE WHAT IT READS IS OF BULK AT MOST 1048576: true; the input reads as it did. -/
def attributeOrderUptoRow : OpenClaim := { program := "ytnnhgmpdfjljbaadoor", sum := "98eec6205fcf4f490af8e10b3213178a717d48295d21cd025078aea37023d49a", func := "stele/stelelaw32.AttributeOrder", spec := "attributeOrder", inPlace := ["internal/bytealg.IndexByteString", "internal/bytealg.IndexString", "internal/bytealg.abigen_runtime_cmpstring"], unfollowed := true, recurses := true, named := ["unicode/utf8.first", "unicode/utf8.acceptRanges", "internal/bytealg.MaxLen"], apart := false, laid := [("unicode/utf8.acceptRanges", laid_unicode_utf8_acceptRanges), ("unicode/utf8.first", laid_unicode_utf8_first)], narrowed := true }
def AttributeOrderUptoSaid : Prop := attributeOrderUptoRow.holds Tryd.pinned (OpenSpec.upto attributeOrderSpec)

/-- 'stelelaw32.AttributeMergeLaws', WHERE WHAT IT READS IS OF BULK AT MOST 1048576: true; the input reads as it did. -/
def attributeMergeLawsUptoRow : OpenClaim := { program := "ytnnhgmpdfjljbaadoor", sum := "98eec6205fcf4f490af8e10b3213178a717d48295d21cd025078aea37023d49a", func := "stele/stelelaw32.AttributeMergeLaws", spec := "attributeMergeLaws", inPlace := ["internal/bytealg.IndexByteString", "internal/bytealg.IndexString", "internal/bytealg.abigen_runtime_cmpstring"], unfollowed := true, recurses := true, named := ["unicode/utf8.first", "unicode/utf8.acceptRanges", "internal/bytealg.MaxLen"], apart := false, laid := [("unicode/utf8.acceptRanges", laid_unicode_utf8_acceptRanges), ("unicode/utf8.first", laid_unicode_utf8_first)], narrowed := true }
def AttributeMergeLawsUptoSaid : Prop := attributeMergeLawsUptoRow.holds Tryd.pinned (OpenSpec.upto attributeMergeLawsSpec)

/-- 'stelelaw32.AttributeAssembly', WHERE WHAT IT READS IS OF BULK AT MOST 1048576: true; the input reads as it did. -/
def attributeAssemblyUptoRow : OpenClaim := { program := "ytnnhgmpdfjljbaadoor", sum := "98eec6205fcf4f490af8e10b3213178a717d48295d21cd025078aea37023d49a", func := "stele/stelelaw32.AttributeAssembly", spec := "attributeAssembly", inPlace := ["internal/bytealg.IndexByteString", "internal/bytealg.IndexString", "internal/bytealg.abigen_runtime_cmpstring"], unfollowed := true, recurses := true, named := ["unicode/utf8.first", "unicode/utf8.acceptRanges", "internal/bytealg.MaxLen"], apart := false, laid := [("unicode/utf8.acceptRanges", laid_unicode_utf8_acceptRanges), ("unicode/utf8.first", laid_unicode_utf8_first)], narrowed := true }
def AttributeAssemblyUptoSaid : Prop := attributeAssemblyUptoRow.holds Tryd.pinned (OpenSpec.upto attributeAssemblySpec)

/-- 'stelelaw32.AttributeResults', WHERE WHAT IT READS IS OF BULK AT MOST 1048576: true; the input reads as it did. -/
def attributeResultsUptoRow : OpenClaim := { program := "ytnnhgmpdfjljbaadoor", sum := "98eec6205fcf4f490af8e10b3213178a717d48295d21cd025078aea37023d49a", func := "stele/stelelaw32.AttributeResults", spec := "attributeResults", inPlace := ["internal/bytealg.IndexByteString", "internal/bytealg.IndexString", "internal/bytealg.abigen_runtime_cmpstring"], unfollowed := true, recurses := true, named := ["unicode/utf8.first", "unicode/utf8.acceptRanges", "internal/bytealg.MaxLen"], apart := false, laid := [("unicode/utf8.acceptRanges", laid_unicode_utf8_acceptRanges), ("unicode/utf8.first", laid_unicode_utf8_first)], narrowed := true }
def AttributeResultsUptoSaid : Prop := attributeResultsUptoRow.holds Tryd.pinned (OpenSpec.upto attributeResultsSpec)

/-- 'stelelaw32.AttributeGetAfterSet', WHERE WHAT IT READS IS OF BULK AT MOST 1048576: true; the input reads as it did. -/
def attributeGetAfterSetUptoRow : OpenClaim := { program := "ytnnhgmpdfjljbaadoor", sum := "98eec6205fcf4f490af8e10b3213178a717d48295d21cd025078aea37023d49a", func := "stele/stelelaw32.AttributeGetAfterSet", spec := "attributeGetAfterSet", inPlace := ["internal/bytealg.IndexByteString", "internal/bytealg.IndexString", "internal/bytealg.abigen_runtime_cmpstring"], unfollowed := true, recurses := true, named := ["unicode/utf8.first", "unicode/utf8.acceptRanges", "internal/bytealg.MaxLen"], apart := false, laid := [("unicode/utf8.acceptRanges", laid_unicode_utf8_acceptRanges), ("unicode/utf8.first", laid_unicode_utf8_first)], narrowed := true }
def AttributeGetAfterSetUptoSaid : Prop := attributeGetAfterSetUptoRow.holds Tryd.pinned (OpenSpec.upto attributeGetAfterSetSpec)

end Rows
end Go.Proofs.YtnnhgmpdfjljbaaDoor
