/-
  For every input the statement SessionContents returns true, and its arguments read as they did before.
  Conditions: those of the tied card alone (the listed package-level variables hold what the program lays).
-/
import Derived.Test.YtjdednajelommaaGreatDoorZRsc
set_option linter.unusedSimpArgs false
set_option linter.unusedVariables false
namespace Go.Proofs.YtjdednajelommaaGreatDoor
open Go.ChangeShapes Go.WideShapes Go.ChangeAt Go.RowKit
theorem Xvl:(Rows.sessionContentsRow.inPlace==Tryz.prog.inPlace 7)=true:=by kernel_rfl
theorem Xvk:(Rows.sessionContentsRow.unfollowed==Tryz.prog.unfollowed 7)=true:=by kernel_rfl
theorem Xvj:(Rows.sessionContentsRow.recurses==Tryz.prog.recurses 7)=true:=by kernel_rfl
theorem Xvi:(Rows.sessionContentsRow.named==Tryz.prog.varsNamed 7)=true:=by kernel_rfl
theorem Xvh:Tryz.prog.stopsHeard=true:=by kernel_rfl
theorem Xvg:Tryz.prog.mayEnter=true:=by kernel_rfl
theorem Xvf:(Rows.sessionContentsRow.lifted==Tryz.prog.liftsFinal)=true:=by kernel_rfl
theorem Xve:(Tryz.prog.make==some Rows.sessionContentsRow.make)=true:=by kernel_rfl
theorem Xvd:(Rows.sessionContentsRow.plainKeys==Tryz.prog.plainKeys)=true:=by kernel_rfl
theorem Xmg:joinedFacts Tryz.prog 7 Tryz.f7 Rows.sessionContentsSpec Rows.sessionContentsRow=true:=by
 unfold joinedFacts
 rw [Xvl,Xvk,Xvj,Xvi,Xvh,Xvg,Xvf,Xve,Xvd]
 kernel_rfl
theorem scnt_row:Rows.SessionContentsSaid:=
 OpenClaim.holds_of_wide 7 Tryz.f7 rfl rfl rfl rfl rfl rfl rfl ⟨rfl,rfl,rfl,rfl,rfl⟩ rfl rfl rfl rfl rfl (by kernel_rfl) Tryz.func7 Xmg
  (of_decide_eq_true (by kernel_rfl)) (by unfold Func.isWrapper;first|(rw [if_pos (by decide +kernel)];kernel_rfl)|(rw [if_neg (by decide +kernel)];exact ⟨rfl,rfl⟩))
  (fun os started H enc _=>scnt_lifted os started H enc)
end Go.Proofs.YtjdednajelommaaGreatDoor
