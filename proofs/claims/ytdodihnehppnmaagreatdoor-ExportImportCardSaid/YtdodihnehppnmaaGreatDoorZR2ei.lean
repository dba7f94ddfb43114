/-
  For every input the statement ExportImport returns true, and its arguments read as they did before.
  Conditions: those of the tied card alone (the listed package-level variables hold what the program lays).
-/
import Derived.Test.YtdodihnehppnmaaGreatDoorZRsei
set_option linter.all false
namespace Go.Proofs.YtdodihnehppnmaaGreatDoor
open Go.ChangeShapes Go.WideShapes Go.ChangeAt Go.RowKit
theorem Xvl:(Rows.exportImportRow.inPlace==Tryz.prog.inPlace 5)=true:=by kernel_rfl
theorem Xvk:(Rows.exportImportRow.unfollowed==Tryz.prog.unfollowed 5)=true:=by kernel_rfl
theorem Xvj:(Rows.exportImportRow.recurses==Tryz.prog.recurses 5)=true:=by kernel_rfl
theorem Xvi:(Rows.exportImportRow.named==Tryz.prog.varsNamed 5)=true:=by kernel_rfl
theorem Xvh:Tryz.prog.stopsHeard=true:=by kernel_rfl
theorem Xvg:Tryz.prog.mayEnter=true:=by kernel_rfl
theorem Xvf:(Rows.exportImportRow.lifted==Tryz.prog.liftsFinal)=true:=by kernel_rfl
theorem Xve:(Tryz.prog.make==some Rows.exportImportRow.make)=true:=by kernel_rfl
theorem Xvd:(Rows.exportImportRow.plainKeys==Tryz.prog.plainKeys)=true:=by kernel_rfl
theorem Xm2:joinedFacts Tryz.prog 5 Tryz.f5 Rows.exportImportSpec Rows.exportImportRow=true:=by
 unfold joinedFacts
 rw [Xvl,Xvk,Xvj,Xvi,Xvh,Xvg,Xvf,Xve,Xvd]
 kernel_rfl
theorem eimp_row:Rows.ExportImportSaid:=
 OpenClaim.holds_of_wide 5 Tryz.f5 rfl rfl rfl rfl rfl rfl rfl ⟨rfl,rfl,rfl,rfl,rfl⟩ rfl rfl rfl rfl rfl (by kernel_rfl) Tryz.func5 Xm2
  (of_decide_eq_true (by kernel_rfl)) (by unfold Func.isWrapper;first|(rw [if_pos (by decide +kernel)];kernel_rfl)|(rw [if_neg (by decide +kernel)];exact ⟨rfl,rfl⟩))
  (fun os started H enc _=>eimp_lifted os started H enc)
end Go.Proofs.YtdodihnehppnmaaGreatDoor
