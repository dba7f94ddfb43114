/-
  For every input the statement ExportRoundTrip returns true,and its arguments read as they did before.
  Conditions: those of the tied card alone (the listed package-level variables hold what the program lays).
-/
import Derived.Test.YtdodihnehppnmaaGreatDoorZR2eo
set_option linter.all false
namespace Go.Proofs.YtdodihnehppnmaaGreatDoor
open Go.ChangeShapes Go.WideShapes Go.ChangeAt Go.RowKit
theorem ernd_card:Rows.ExportRoundTripCardSaid:=
 Claim7.holds_tied_plain_at .later [] [.data,.data,.data,.data,.sentinel,.sentinel,.pinned] true _ true ernd_row (fun _ h=>by cases h) (by as_aux_lemma=>kernel_rfl) (fun _ h=>by cases h) exportRoundTrip_row_tie rfl ⟨rfl,rfl⟩ (by as_aux_lemma=>kernel_rfl) rfl
  (fun f fn hf Il=>by
    obtain rfl : f=10 :=Option.some.inj ((show Tryz.prog.funcNamed "stele/stelelaw42.ExportRoundTrip" =some 10 by as_aux_lemma=> kernel_rfl).symm.trans hf) |>.symm
    obtain rfl:fn=Tryz.f10:=(Option.some.inj (Tryz.func10.symm.trans Il)).symm;exact⟨by as_aux_lemma=>kernel_rfl,fun j t ht=>by
     rw[Tryz.params10]at ht;have hm:t∈[22,3]:=by simpa using Array.mem_of_getElem? ht
     have aG:(List.all [22,3] fun u=> !Tryz.prog.wantsStandIn u)=true:=by as_aux_lemma=>kernel_rfl
     exact(show Tryz.prog.wantsStandIn t=false by simpa using List.all_eq_true.1 aG t hm)⟩)
  (by as_aux_lemma=>kernel_rfl)
#print axioms ernd_card
