/-
  For every input the statement ExportTree returns true, and its arguments read as they did before.
  Conditions: those of the tied card alone (the listed package-level variables hold what the program lays).
-/
import Derived.Test.YtdodihnehppnmaaGreatDoorZRset
set_option linter.all false
namespace Go.Proofs.YtdodihnehppnmaaGreatDoor
open Go.ChangeShapes Go.WideShapes Go.ChangeAt Go.RowKit
theorem Xwg:(Rows.exportTreeRow.inPlace==Tryz.prog.inPlace 4)=true:=by kernel_rfl
theorem Xwf:(Rows.exportTreeRow.unfollowed==Tryz.prog.unfollowed 4)=true:=by kernel_rfl
theorem Xwe:(Rows.exportTreeRow.recurses==Tryz.prog.recurses 4)=true:=by kernel_rfl
theorem Xwd:(Rows.exportTreeRow.named==Tryz.prog.varsNamed 4)=true:=by kernel_rfl
theorem Xwc:Tryz.prog.stopsHeard=true:=by kernel_rfl
theorem Xwb:Tryz.prog.mayEnter=true:=by kernel_rfl
theorem Xwa:(Rows.exportTreeRow.lifted==Tryz.prog.liftsFinal)=true:=by kernel_rfl
theorem Xv9:(Tryz.prog.make==some Rows.exportTreeRow.make)=true:=by kernel_rfl
theorem Xv8:(Rows.exportTreeRow.plainKeys==Tryz.prog.plainKeys)=true:=by kernel_rfl
theorem Xnu:joinedFacts Tryz.prog 4 Tryz.f4 Rows.exportTreeSpec Rows.exportTreeRow=true:=by
 unfold joinedFacts
 rw [Xwg,Xwf,Xwe,Xwd,Xwc,Xwb,Xwa,Xv9,Xv8]
 kernel_rfl
theorem etre_row:Rows.ExportTreeSaid:=
 OpenClaim.holds_of_wide 4 Tryz.f4 rfl rfl rfl rfl rfl rfl rfl ⟨rfl,rfl,rfl,rfl,rfl⟩ rfl rfl rfl rfl rfl (by kernel_rfl) Tryz.func4 Xnu
  (of_decide_eq_true (by kernel_rfl)) (by unfold Func.isWrapper;first|(rw [if_pos (by decide +kernel)];kernel_rfl)|(rw [if_neg (by decide +kernel)];exact ⟨rfl,rfl⟩))
  (fun os started H enc _=>etre_lifted os started H enc)
end Go.Proofs.YtdodihnehppnmaaGreatDoor
