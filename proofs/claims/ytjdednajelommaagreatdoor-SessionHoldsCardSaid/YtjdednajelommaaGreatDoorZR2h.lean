/-
  For every input the statement SessionHolds returns true, and its arguments read as they did before.
  Conditions: those of the tied card alone (the listed package-level variables hold what the program lays).
-/
import Derived.Test.YtjdednajelommaaGreatDoorZRsh
set_option linter.unusedSimpArgs false
set_option linter.unusedVariables false
namespace Go.Proofs.YtjdednajelommaaGreatDoor
open Go.ChangeShapes Go.WideShapes Go.ChangeAt Go.RowKit
theorem shld_k1:(Rows.sessionHoldsRow.inPlace==Tryz.prog.inPlace 9)=true:=by kernel_rfl
theorem shld_k2:(Rows.sessionHoldsRow.unfollowed==Tryz.prog.unfollowed 9)=true:=by kernel_rfl
theorem shld_k3:(Rows.sessionHoldsRow.recurses==Tryz.prog.recurses 9)=true:=by kernel_rfl
theorem shld_k4:(Rows.sessionHoldsRow.named==Tryz.prog.varsNamed 9)=true:=by kernel_rfl
theorem shld_k5:Tryz.prog.stopsHeard=true:=by kernel_rfl
theorem shld_k6:Tryz.prog.mayEnter=true:=by kernel_rfl
theorem shld_k7:(Rows.sessionHoldsRow.lifted==Tryz.prog.liftsFinal)=true:=by kernel_rfl
theorem shld_k8:(Tryz.prog.make==some Rows.sessionHoldsRow.make)=true:=by kernel_rfl
theorem shld_k9:(Rows.sessionHoldsRow.plainKeys==Tryz.prog.plainKeys)=true:=by kernel_rfl
theorem shld_closed:joinedFacts Tryz.prog 9 Tryz.f9 Rows.sessionHoldsSpec Rows.sessionHoldsRow=true:=by
 unfold joinedFacts
 rw [shld_k1,shld_k2,shld_k3,shld_k4,shld_k5,shld_k6,shld_k7,shld_k8,shld_k9]
 kernel_rfl
theorem shld_row:Rows.SessionHoldsSaid:=
 OpenClaim.holds_of_wide 9 Tryz.f9 rfl rfl rfl rfl rfl rfl rfl ⟨rfl,rfl,rfl,rfl,rfl⟩ rfl rfl rfl rfl rfl (by kernel_rfl) Tryz.func9 shld_closed
  (of_decide_eq_true (by kernel_rfl)) (by unfold Func.isWrapper;first|(rw [if_pos (by decide +kernel)];kernel_rfl)|(rw [if_neg (by decide +kernel)];exact ⟨rfl,rfl⟩))
  (fun os started H enc _=>shld_lifted os started H enc)
end Go.Proofs.YtjdednajelommaaGreatDoor
