/-
  For every input within the bound of the second form the statement QuotaIngest returns true,and its arguments read as they did before.
  Conditions: those of the tied card alone (the listed package-level variables hold what the program lays).
-/
import Derived.Test.YtmdfjnhfhidmhaaGreatDoorZR2qi
set_option linter.all false
namespace Go.Proofs.YtmdfjnhfhidmhaaGreatDoor
open Go.ChangeShapes Go.WideShapes Go.ChangeAt Go.RowKit
theorem qing_card:Rows.QuotaIngestUptoCardSaid:=
 Claim7.holds_tied_plain_at .later [] _ _ _ _ qing_row (fun _ h=>by cases h) (by as_aux_lemma=>kernel_rfl) (fun _ h=>by cases h) quotaIngestUpto_row_tie rfl ⟨rfl,rfl⟩ (by as_aux_lemma=>kernel_rfl) rfl
  (fun f fn hf OA=>by
    obtain rfl : f=4 :=Option.some.inj ((show Tryz.prog.funcNamed "stele/stelelaw54.QuotaIngest" =some 4 by as_aux_lemma=> kernel_rfl).symm.trans hf) |>.symm
    obtain rfl:fn=Tryz.f4:=(Option.some.inj (Tryz.func4.symm.trans OA)).symm;exact⟨by as_aux_lemma=>kernel_rfl,fun j t ht=>by
     rw[Tryz.params4]at ht;have hm:t∈[22,36,3]:=by simpa using Array.mem_of_getElem? ht
     have aC:(List.all [22,36,3] fun u=> !Tryz.prog.wantsStandIn u)=true:=by as_aux_lemma=>kernel_rfl
     exact(show Tryz.prog.wantsStandIn t=false by simpa using List.all_eq_true.1 aC t hm)⟩)
  (by as_aux_lemma=>kernel_rfl)
#print axioms qing_card
