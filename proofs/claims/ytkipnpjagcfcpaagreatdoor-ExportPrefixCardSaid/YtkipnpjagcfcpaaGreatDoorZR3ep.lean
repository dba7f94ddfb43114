/-
  For every input the statement ExportPrefix returns true,and its arguments read as they did before.
  Conditions: those of the tied card alone (the listed package-level variables hold what the program lays).
-/
import Derived.Test.YtkipnpjagcfcpaaGreatDoorZR2ep
set_option linter.all false
namespace Go.Proofs.YtkipnpjagcfcpaaGreatDoor
open Go.ChangeShapes Go.WideShapes Go.ChangeAt Go.RowKit
theorem epre_card:Rows.ExportPrefixCardSaid:=
 Claim7.holds_tied_plain_at .later [] [.data,.data,.data,.data,.sentinel,.sentinel,.pinned] true _ true epre_row (fun _ h=>by cases h) (by as_aux_lemma=>kernel_rfl) (fun _ h=>by cases h) exportPrefix_row_tie rfl ⟨rfl,rfl⟩ (by as_aux_lemma=>kernel_rfl) rfl
  (fun f fn hf FK=>by
    obtain rfl : f=4 :=Option.some.inj ((show Tryz.prog.funcNamed "stele/stelelaw42.ExportPrefix" =some 4 by as_aux_lemma=> kernel_rfl).symm.trans hf) |>.symm
    obtain rfl:fn=Tryz.f4:=(Option.some.inj (Tryz.func4.symm.trans FK)).symm;exact⟨by as_aux_lemma=>kernel_rfl,fun j t ht=>by
     rw[Tryz.params4]at ht;have hm:t∈[22,5,23]:=by simpa using Array.mem_of_getElem? ht
     have aB:(List.all [22,5,23] fun u=> !Tryz.prog.wantsStandIn u)=true:=by as_aux_lemma=>kernel_rfl
     exact(show Tryz.prog.wantsStandIn t=false by simpa using List.all_eq_true.1 aB t hm)⟩)
  (by as_aux_lemma=>kernel_rfl)
#print axioms epre_card
