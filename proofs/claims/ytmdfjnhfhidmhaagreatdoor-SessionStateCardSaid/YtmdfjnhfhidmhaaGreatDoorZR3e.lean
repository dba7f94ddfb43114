/-
  For every input the statement SessionState returns true,and its arguments read as they did before.
  Conditions: those of the tied card alone (the listed package-level variables hold what the program lays).
-/
import Derived.Test.YtmdfjnhfhidmhaaGreatDoorZR2e
set_option linter.all false
namespace Go.Proofs.YtmdfjnhfhidmhaaGreatDoor
open Go.ChangeShapes Go.WideShapes Go.ChangeAt Go.RowKit
theorem ssta_card:Rows.SessionStateCardSaid:=
 Claim7.holds_tied_plain_at .later [] [.data,.data,.data,.data,.sentinel,.sentinel,.pinned] true _ true ssta_row (fun _ h=>by cases h) (by kernel_rfl) (fun _ h=>by cases h) sessionState_row_tie rfl ⟨rfl,rfl⟩ (by kernel_rfl) rfl
  (fun f fn hf CR=>by
    obtain rfl : f=8 :=Option.some.inj ((show Tryz.prog.funcNamed "stele/stelelaw39.SessionState" =some 8 by kernel_rfl).symm.trans hf) |>.symm
    obtain rfl:fn=Tryz.f8:=(Option.some.inj (Tryz.func8.symm.trans CR)).symm;exact⟨by kernel_rfl,fun j t ht=>by
     rw[Tryz.params8]at ht;have hm:t∈[56,3]:=by simpa using Array.mem_of_getElem? ht
     have aA:(List.all [56,3] fun u=> !Tryz.prog.wantsStandIn u)=true:=by kernel_rfl
     exact(show Tryz.prog.wantsStandIn t=false by simpa using List.all_eq_true.1 aA t hm)⟩)
  (by kernel_rfl)
#print axioms ssta_card
