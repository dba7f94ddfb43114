/-
  For every input the statement SessionContents returns true, and its arguments read as they did before.
  Conditions: those of the tied card alone (the listed package-level variables hold what the program lays).
-/
import Derived.Test.YtjdednajelommaaGreatDoorZR2c
set_option linter.unusedSimpArgs false
set_option linter.unusedVariables false
namespace Go.Proofs.YtjdednajelommaaGreatDoor
open Go.ChangeShapes Go.WideShapes Go.ChangeAt Go.RowKit
theorem scnt_card:Rows.SessionContentsCardSaid:=
 Claim7.holds_tied_plain_at .later [] [.data, .data, .data, .data, .sentinel, .sentinel, .pinned] true (true, "18acd78542348af87a5262340263cbe922d9e805fcb623b669302bcaf7d5c735") true scnt_row (fun _ h => by cases h) (by kernel_rfl) (fun _ h => by cases h) sessionContents_row_tie rfl ⟨rfl, rfl⟩ (by kernel_rfl) rfl
  (fun f fn hf hfn=>by
    obtain rfl : f = 7 := Option.some.inj ((show Tryz.prog.funcNamed "stele/stelelaw39.SessionContents" = some 7 by kernel_rfl).symm.trans hf) |>.symm
    obtain rfl:fn=Tryz.f7:=(Option.some.inj (Tryz.func7.symm.trans hfn)).symm
    exact ⟨by kernel_rfl,fun j t ht=>by
     rw [Tryz.params7] at ht
     have hm:t∈ [22]:=by simpa using Array.mem_of_getElem? ht
     have hall:(List.all [22] fun u=> !Tryz.prog.wantsStandIn u)=true:=by kernel_rfl
     exact (show Tryz.prog.wantsStandIn t=false by simpa using List.all_eq_true.1 hall t hm)⟩)
  (by kernel_rfl)
#print axioms scnt_card
end Go.Proofs.YtjdednajelommaaGreatDoor
