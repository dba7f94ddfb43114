/-
  For every input the statement ExportEquality returns true,and its arguments read as they did before.
  Conditions: those of the tied card alone (the listed package-level variables hold what the program lays).
-/
import Derived.Test.YtdodihnehppnmaaGreatDoorZR2eq
set_option linter.all false
namespace Go.Proofs.YtdodihnehppnmaaGreatDoor
open Go.ChangeShapes Go.WideShapes Go.ChangeAt Go.RowKit
theorem eequ_card:Rows.ExportEqualityCardSaid:=
 Claim7.holds_tied_plain_at .later [] [.data,.data,.data,.data,.sentinel,.sentinel,.pinned] true _ true eequ_row (fun _ h=>by cases h) (by as_aux_lemma=>kernel_rfl) (fun _ h=>by cases h) exportEquality_row_tie rfl ⟨rfl,rfl⟩ (by as_aux_lemma=>kernel_rfl) rfl
  (fun f fn hf Il=>by
    obtain rfl : f=9 :=Option.some.inj ((show Tryz.prog.funcNamed "stele/stelelaw42.ExportEquality" =some 9 by as_aux_lemma=> kernel_rfl).symm.trans hf) |>.symm
    obtain rfl:fn=Tryz.f9:=(Option.some.inj (Tryz.func9.symm.trans Il)).symm;exact⟨by as_aux_lemma=>kernel_rfl,fun j t ht=>by
     rw[Tryz.params9]at ht;have hm:t∈[22,57]:=by simpa using Array.mem_of_getElem? ht
     have aG:(List.all [22,57] fun u=> !Tryz.prog.wantsStandIn u)=true:=by as_aux_lemma=>kernel_rfl
     exact(show Tryz.prog.wantsStandIn t=false by simpa using List.all_eq_true.1 aG t hm)⟩)
  (by as_aux_lemma=>kernel_rfl)
#print axioms eequ_card
