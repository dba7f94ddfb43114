/-
  For every input the statement ExportContent returns true, and its arguments read as they did before.
  Conditions: those of the tied card alone (the listed package-level variables hold what the program lays).
-/
import Derived.Test.YtdodihnehppnmaaGreatDoorZRsec
set_option linter.all false
namespace Go.Proofs.YtdodihnehppnmaaGreatDoor
open Go.ChangeShapes Go.WideShapes Go.ChangeAt Go.RowKit
theorem Xvu:(Rows.exportContentRow.inPlace==Tryz.prog.inPlace 3)=true:=by kernel_rfl
theorem Xvt:(Rows.exportContentRow.unfollowed==Tryz.prog.unfollowed 3)=true:=by kernel_rfl
theorem Xvs:(Rows.exportContentRow.recurses==Tryz.prog.recurses 3)=true:=by kernel_rfl
theorem Xvr:(Rows.exportContentRow.named==Tryz.prog.varsNamed 3)=true:=by kernel_rfl
theorem Xvq:Tryz.prog.stopsHeard=true:=by kernel_rfl
theorem Xvp:Tryz.prog.mayEnter=true:=by kernel_rfl
theorem Xvo:(Rows.exportContentRow.lifted==Tryz.prog.liftsFinal)=true:=by kernel_rfl
theorem Xvn:(Tryz.prog.make==some Rows.exportContentRow.make)=true:=by kernel_rfl
theorem Xvm:(Rows.exportContentRow.plainKeys==Tryz.prog.plainKeys)=true:=by kernel_rfl
theorem Xm3:joinedFacts Tryz.prog 3 Tryz.f3 Rows.exportContentSpec Rows.exportContentRow=true:=by
 unfold joinedFacts
 rw [Xvu,Xvt,Xvs,Xvr,Xvq,Xvp,Xvo,Xvn,Xvm]
 kernel_rfl
theorem econ_row:Rows.ExportContentSaid:=
 OpenClaim.holds_of_wide 3 Tryz.f3 rfl rfl rfl rfl rfl rfl rfl ⟨rfl,rfl,rfl,rfl,rfl⟩ rfl rfl rfl rfl rfl (by kernel_rfl) Tryz.func3 Xm3
  (of_decide_eq_true (by kernel_rfl)) (by unfold Func.isWrapper;first|(rw [if_pos (by decide +kernel)];kernel_rfl)|(rw [if_neg (by decide +kernel)];exact ⟨rfl,rfl⟩))
  (fun os started H enc _=>econ_lifted os started H enc)
end Go.Proofs.YtdodihnehppnmaaGreatDoor
