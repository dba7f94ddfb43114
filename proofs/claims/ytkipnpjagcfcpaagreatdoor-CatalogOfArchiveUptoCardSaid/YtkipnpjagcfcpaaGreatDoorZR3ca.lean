/-
  For every input within the bound of the second form the statement CatalogOfArchive returns true, and its arguments read as they did before.
  Conditions: those of the tied card alone (the listed package-level variables hold what the program lays).
-/
import Derived.Test.YtkipnpjagcfcpaaGreatDoorZR2ca
set_option linter.all false
namespace Go.Proofs.YtkipnpjagcfcpaaGreatDoor
open Go.ChangeShapes Go.WideShapes Go.ChangeAt Go.RowKit
theorem cofa_card:Rows.CatalogOfArchiveUptoCardSaid:=
 Claim7.holds_tied_plain_at .later [] _ _ _ _ cofa_row (fun _ h=>by cases h) (by as_aux_lemma=>kernel_rfl) (fun _ h=>by cases h) catalogOfArchiveUpto_row_tie rfl ⟨rfl,rfl⟩ (by as_aux_lemma=>kernel_rfl) rfl
  (fun f fn hf hfn=>by
    obtain rfl : f = 5 := Option.some.inj ((show Tryz.prog.funcNamed "stele/stelelaw57.CatalogOfArchive" = some 5 by as_aux_lemma => kernel_rfl).symm.trans hf) |>.symm
    obtain rfl:fn=Tryz.f5:=(Option.some.inj (Tryz.func5.symm.trans hfn)).symm
    exact ⟨by as_aux_lemma=>kernel_rfl,fun j t ht=>by
     rw [Tryz.params5] at ht
     have hm:t∈ [41,42]:=by simpa using Array.mem_of_getElem? ht
     have hall:(List.all [41,42] fun u=> !Tryz.prog.wantsStandIn u)=true:=by as_aux_lemma=>kernel_rfl
     exact (show Tryz.prog.wantsStandIn t=false by simpa using List.all_eq_true.1 hall t hm)⟩)
  (by as_aux_lemma=>kernel_rfl)
#print axioms cofa_card
end Go.Proofs.YtkipnpjagcfcpaaGreatDoor
