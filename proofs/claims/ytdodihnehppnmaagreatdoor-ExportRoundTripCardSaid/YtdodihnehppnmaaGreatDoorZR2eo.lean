/-
  For every input the statement ExportRoundTrip returns true,and its arguments read as they did before.
  Conditions: those of the tied card alone (the listed package-level variables hold what the program lays).
-/
import Derived.Test.YtdodihnehppnmaaGreatDoorZRseo
set_option linter.all false
namespace Go.Proofs.YtdodihnehppnmaaGreatDoor
open Go.ChangeShapes Go.WideShapes Go.ChangeAt Go.RowKit
theorem Xy9:(Rows.exportRoundTripRow.inPlace==Tryz.prog.inPlace 10)=true:=by kernel_rfl
theorem Xy8:(Rows.exportRoundTripRow.unfollowed==Tryz.prog.unfollowed 10)=true:=by kernel_rfl
theorem Xy7:(Rows.exportRoundTripRow.recurses==Tryz.prog.recurses 10)=true:=by kernel_rfl
theorem Xy6:(Rows.exportRoundTripRow.named==Tryz.prog.varsNamed 10)=true:=by kernel_rfl
theorem Xy5:Tryz.prog.stopsHeard=true:=by kernel_rfl
theorem Xy4:Tryz.prog.mayEnter=true:=by kernel_rfl
theorem Xy3:(Rows.exportRoundTripRow.lifted==Tryz.prog.liftsFinal)=true:=by kernel_rfl
theorem Xy2:(Tryz.prog.make==some Rows.exportRoundTripRow.make)=true:=by kernel_rfl
theorem Xy1:(Rows.exportRoundTripRow.plainKeys==Tryz.prog.plainKeys)=true:=by kernel_rfl
theorem Xo2:joinedFacts Tryz.prog 10 Tryz.f10 Rows.exportRoundTripSpec Rows.exportRoundTripRow=true:=by
 unfold joinedFacts;rw[Xy9,Xy8,Xy7,Xy6,Xy5,Xy4,Xy3,Xy2,Xy1];kernel_rfl
theorem ernd_row:Rows.ExportRoundTripSaid:=
 OpenClaim.holds_of_wide 10 Tryz.f10 rfl rfl rfl rfl rfl rfl rfl ⟨rfl,rfl,rfl,rfl,rfl⟩ rfl rfl rfl rfl rfl (by kernel_rfl) Tryz.func10 Xo2
  (of_decide_eq_true (by kernel_rfl)) (by unfold Func.isWrapper;first|(rw[if_pos (by decide+kernel)];kernel_rfl)|(rw[if_neg (by decide+kernel)];exact⟨rfl,rfl⟩))
  (fun os started H enc _=>ernd_lifted os started H enc)
