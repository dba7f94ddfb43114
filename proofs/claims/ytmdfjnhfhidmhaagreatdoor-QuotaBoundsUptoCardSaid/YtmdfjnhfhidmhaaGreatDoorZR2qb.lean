/-
  For every input within the bound of the second form the statement QuotaBounds returns true, and its arguments read as they did before.
  Conditions: those of the tied card alone (the listed package-level variables hold what the program lays).
-/
import Derived.Test.YtmdfjnhfhidmhaaGreatDoorZRsqb
set_option linter.all false
namespace Go.Proofs.YtmdfjnhfhidmhaaGreatDoor
open Go.ChangeShapes Go.WideShapes Go.ChangeAt Go.RowKit
theorem Xs9:(Rows.quotaBoundsUptoRow.inPlace==Tryz.prog.inPlace 10)=true:=by kernel_rfl
theorem Xs8:(Rows.quotaBoundsUptoRow.unfollowed==Tryz.prog.unfollowed 10)=true:=by kernel_rfl
theorem Xs7:(Rows.quotaBoundsUptoRow.recurses==Tryz.prog.recurses 10)=true:=by kernel_rfl
theorem Xs6:(Rows.quotaBoundsUptoRow.named==Tryz.prog.varsNamed 10)=true:=by kernel_rfl
theorem Xs5:Tryz.prog.stopsHeard=true:=by kernel_rfl
theorem Xs4:Tryz.prog.mayEnter=true:=by kernel_rfl
theorem Xs3:(Rows.quotaBoundsUptoRow.lifted==Tryz.prog.liftsFinal)=true:=by kernel_rfl
theorem Xs2:(Tryz.prog.make==some Rows.quotaBoundsUptoRow.make)=true:=by kernel_rfl
theorem Xs1:(Rows.quotaBoundsUptoRow.plainKeys==Tryz.prog.plainKeys)=true:=by kernel_rfl
theorem Xke:joinedFacts Tryz.prog 10 Tryz.f10 (Rows.OpenSpec.upto Rows.quotaBoundsSpec).bare Rows.quotaBoundsUptoRow=true:=by
 unfold joinedFacts
 rw [Xs9,Xs8,Xs7,Xs6,Xs5,Xs4,Xs3,Xs2,Xs1]
 kernel_rfl
theorem qbnd_row:Rows.QuotaBoundsUptoSaid:=
 OpenClaim.holds_of_cond 10 Tryz.f10 rfl rfl rfl rfl rfl rfl rfl ⟨rfl,rfl,rfl,rfl,rfl⟩ rfl rfl rfl rfl rfl (by kernel_rfl) Tryz.func10 Xke
  (of_decide_eq_true (by kernel_rfl)) (by unfold Func.isWrapper;first|(rw [if_pos (by decide +kernel)];kernel_rfl)|(rw [if_neg (by decide +kernel)];exact ⟨rfl,rfl⟩))
  (fun os started H enc _ F=>by rw [OpenClaim.pre_eq_preRow];exact qbnd_lifted os started H enc F)
end Go.Proofs.YtmdfjnhfhidmhaaGreatDoor
