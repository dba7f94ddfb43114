/-
  For every input the statement SessionHolds returns true, and its arguments read as they did before.
  Conditions: those of the tied card alone (the listed package-level variables hold what the program lays).
-/
import Derived.Test.YtjdednajelommaaGreatDoorZR2h
set_option linter.unusedSimpArgs false
set_option linter.unusedVariables false
namespace Go.Proofs.YtjdednajelommaaGreatDoor
open Go.ChangeShapes Go.WideShapes Go.ChangeAt Go.RowKit
theorem shld_card:Rows.SessionHoldsCardSaid:=
 Claim7.holds_tied_plain_at .later [] [.data, .data, .data, .data, .sentinel, .sentinel, .pinned] true (true, "18acd78542348af87a5262340263cbe922d9e805fcb623b669302bcaf7d5c735") true shld_row (fun _ h => by cases h) (by kernel_rfl) (fun _ h => by cases h) sessionHolds_row_tie rfl ⟨rfl, rfl⟩ (by kernel_rfl) rfl
  (fun f fn hf hfn=>by
    obtain rfl : f = 9 := Option.some.inj ((show Tryz.prog.funcNamed "stele/stelelaw39.SessionHolds" = some 9 by kernel_rfl).symm.trans hf) |>.symm
    obtain rfl:fn=Tryz.f9:=(Option.some.inj (Tryz.func9.symm.trans hfn)).symm
    exact ⟨by kernel_rfl,fun j t ht=>by
     rw [Tryz.params9] at ht
     have hm:t∈ [22,5,5]:=by simpa using Array.mem_of_getElem? ht
     have hall:(List.all [22,5,5] fun u=> !Tryz.prog.wantsStandIn u)=true:=by kernel_rfl
     exact (show Tryz.prog.wantsStandIn t=false by simpa using List.all_eq_true.1 hall t hm)⟩)
  (by kernel_rfl)
#print axioms shld_card
end Go.Proofs.YtjdednajelommaaGreatDoor
