/-
  For every input the statement ExportEquality returns true,and its arguments read as they did before.
  Conditions: those of the tied card alone (the listed package-level variables hold what the program lays).
-/
import Derived.Test.YtdodihnehppnmaaGreatDoorZRseq
set_option linter.all false
namespace Go.Proofs.YtdodihnehppnmaaGreatDoor
open Go.ChangeShapes Go.WideShapes Go.ChangeAt Go.RowKit
theorem Xzn:(Rows.exportEqualityRow.inPlace==Tryz.prog.inPlace 9)=true:=by kernel_rfl
theorem Xzm:(Rows.exportEqualityRow.unfollowed==Tryz.prog.unfollowed 9)=true:=by kernel_rfl
theorem Xzl:(Rows.exportEqualityRow.recurses==Tryz.prog.recurses 9)=true:=by kernel_rfl
theorem Xzk:(Rows.exportEqualityRow.named==Tryz.prog.varsNamed 9)=true:=by kernel_rfl
theorem Xzj:Tryz.prog.stopsHeard=true:=by kernel_rfl
theorem Xzi:Tryz.prog.mayEnter=true:=by kernel_rfl
theorem Xzh:(Rows.exportEqualityRow.lifted==Tryz.prog.liftsFinal)=true:=by kernel_rfl
theorem Xzg:(Tryz.prog.make==some Rows.exportEqualityRow.make)=true:=by kernel_rfl
theorem Xzf:(Rows.exportEqualityRow.plainKeys==Tryz.prog.plainKeys)=true:=by kernel_rfl
theorem Xo8:joinedFacts Tryz.prog 9 Tryz.f9 Rows.exportEqualitySpec Rows.exportEqualityRow=true:=by
 unfold joinedFacts;rw[Xzn,Xzm,Xzl,Xzk,Xzj,Xzi,Xzh,Xzg,Xzf];kernel_rfl
theorem eequ_row:Rows.ExportEqualitySaid:=
 OpenClaim.holds_of_wide 9 Tryz.f9 rfl rfl rfl rfl rfl rfl rfl ⟨rfl,rfl,rfl,rfl,rfl⟩ rfl rfl rfl rfl rfl (by kernel_rfl) Tryz.func9 Xo8
  (of_decide_eq_true (by kernel_rfl)) (by unfold Func.isWrapper;first|(rw[if_pos (by decide+kernel)];kernel_rfl)|(rw[if_neg (by decide+kernel)];exact⟨rfl,rfl⟩))
  (fun os started H enc _=>eequ_lifted os started H enc)
