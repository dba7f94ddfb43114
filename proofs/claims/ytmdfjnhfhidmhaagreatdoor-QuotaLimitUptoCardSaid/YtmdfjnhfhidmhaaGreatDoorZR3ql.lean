/-
  For every input within the bound of the second form the statement QuotaLimit returns true, and its arguments read as they did before.
  Conditions: those of the tied card alone (the listed package-level variables hold what the program lays).
-/
import Derived.Test.YtmdfjnhfhidmhaaGreatDoorZR2ql
set_option linter.all false
namespace Go.Proofs.YtmdfjnhfhidmhaaGreatDoor
open Go.ChangeShapes Go.WideShapes Go.ChangeAt Go.RowKit
theorem qlim_card:Rows.QuotaLimitUptoCardSaid:=
 Claim7.holds_tied_plain_at .later [] _ _ _ _ qlim_row (fun _ h=>by cases h) (by as_aux_lemma=>kernel_rfl) (fun _ h=>by cases h) quotaLimitUpto_row_tie rfl ⟨rfl,rfl⟩ (by as_aux_lemma=>kernel_rfl) rfl
  (fun f fn hf hfn=>by
    obtain rfl : f = 13 := Option.some.inj ((show Tryz.prog.funcNamed "stele/stelelaw54.QuotaLimit" = some 13 by as_aux_lemma => kernel_rfl).symm.trans hf) |>.symm
    obtain rfl:fn=Tryz.f13:=(Option.some.inj (Tryz.func13.symm.trans hfn)).symm
    exact ⟨by as_aux_lemma=>kernel_rfl,fun j t ht=>by
     rw [Tryz.params13] at ht
     have hm:t∈ [22,9,5]:=by simpa using Array.mem_of_getElem? ht
     have hall:(List.all [22,9,5] fun u=> !Tryz.prog.wantsStandIn u)=true:=by as_aux_lemma=>kernel_rfl
     exact (show Tryz.prog.wantsStandIn t=false by simpa using List.all_eq_true.1 hall t hm)⟩)
  (by as_aux_lemma=>kernel_rfl)
#print axioms qlim_card
end Go.Proofs.YtmdfjnhfhidmhaaGreatDoor
