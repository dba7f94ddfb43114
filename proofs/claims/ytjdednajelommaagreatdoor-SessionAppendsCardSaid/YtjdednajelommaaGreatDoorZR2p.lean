/-
  For every input the statement SessionAppends returns true, and its arguments read as they did before.
  Conditions: those of the tied card alone (the listed package-level variables hold what the program lays).
-/
import Derived.Test.YtjdednajelommaaGreatDoorZRsp
set_option linter.unusedSimpArgs false
set_option linter.unusedVariables false
namespace Go.Proofs.YtjdednajelommaaGreatDoor
open Go.ChangeShapes Go.WideShapes Go.ChangeAt Go.RowKit
theorem Xv3:(Rows.sessionAppendsRow.inPlace==Tryz.prog.inPlace 5)=true:=by kernel_rfl
theorem Xv2:(Rows.sessionAppendsRow.unfollowed==Tryz.prog.unfollowed 5)=true:=by kernel_rfl
theorem Xv1:(Rows.sessionAppendsRow.recurses==Tryz.prog.recurses 5)=true:=by kernel_rfl
theorem Xv0:(Rows.sessionAppendsRow.named==Tryz.prog.varsNamed 5)=true:=by kernel_rfl
theorem Xvz:Tryz.prog.stopsHeard=true:=by kernel_rfl
theorem Xvy:Tryz.prog.mayEnter=true:=by kernel_rfl
theorem Xvx:(Rows.sessionAppendsRow.lifted==Tryz.prog.liftsFinal)=true:=by kernel_rfl
theorem Xvw:(Tryz.prog.make==some Rows.sessionAppendsRow.make)=true:=by kernel_rfl
theorem Xvv:(Rows.sessionAppendsRow.plainKeys==Tryz.prog.plainKeys)=true:=by kernel_rfl
theorem Xmi:joinedFacts Tryz.prog 5 Tryz.f5 Rows.sessionAppendsSpec Rows.sessionAppendsRow=true:=by
 unfold joinedFacts
 rw [Xv3,Xv2,Xv1,Xv0,Xvz,Xvy,Xvx,Xvw,Xvv]
 kernel_rfl
theorem sapp_row:Rows.SessionAppendsSaid:=
 OpenClaim.holds_of_wide 5 Tryz.f5 rfl rfl rfl rfl rfl rfl rfl ⟨rfl,rfl,rfl,rfl,rfl⟩ rfl rfl rfl rfl rfl (by kernel_rfl) Tryz.func5 Xmi
  (of_decide_eq_true (by kernel_rfl)) (by unfold Func.isWrapper;first|(rw [if_pos (by decide +kernel)];kernel_rfl)|(rw [if_neg (by decide +kernel)];exact ⟨rfl,rfl⟩))
  (fun os started H enc _=>sapp_lifted os started H enc)
end Go.Proofs.YtjdednajelommaaGreatDoor
