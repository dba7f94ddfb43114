/-
  For every input the statement SessionState returns true,and its arguments read as they did before.
  Conditions: those of the tied card alone (the listed package-level variables hold what the program lays).
-/
import Derived.Test.YtmdfjnhfhidmhaaGreatDoorZRse
set_option linter.all false
namespace Go.Proofs.YtmdfjnhfhidmhaaGreatDoor
open Go.ChangeShapes Go.WideShapes Go.ChangeAt Go.RowKit
theorem Xrq:(Rows.sessionStateRow.inPlace==Tryz.prog.inPlace 8)=true:=by kernel_rfl
theorem Xrp:(Rows.sessionStateRow.unfollowed==Tryz.prog.unfollowed 8)=true:=by kernel_rfl
theorem Xro:(Rows.sessionStateRow.recurses==Tryz.prog.recurses 8)=true:=by kernel_rfl
theorem Xrn:(Rows.sessionStateRow.named==Tryz.prog.varsNamed 8)=true:=by kernel_rfl
theorem Xrm:Tryz.prog.stopsHeard=true:=by kernel_rfl
theorem Xrl:Tryz.prog.mayEnter=true:=by kernel_rfl
theorem Xrk:(Rows.sessionStateRow.lifted==Tryz.prog.liftsFinal)=true:=by kernel_rfl
theorem Xrj:(Tryz.prog.make==some Rows.sessionStateRow.make)=true:=by kernel_rfl
theorem Xri:(Rows.sessionStateRow.plainKeys==Tryz.prog.plainKeys)=true:=by kernel_rfl
theorem Xjw:joinedFacts Tryz.prog 8 Tryz.f8 Rows.sessionStateSpec Rows.sessionStateRow=true:=by
 unfold joinedFacts;rw[Xrq,Xrp,Xro,Xrn,Xrm,Xrl,Xrk,Xrj,Xri];kernel_rfl
theorem ssta_row:Rows.SessionStateSaid:=
 OpenClaim.holds_of_wide 8 Tryz.f8 rfl rfl rfl rfl rfl rfl rfl ⟨rfl,rfl,rfl,rfl,rfl⟩ rfl rfl rfl rfl rfl (by kernel_rfl) Tryz.func8 Xjw
  (of_decide_eq_true (by kernel_rfl)) (by unfold Func.isWrapper;first|(rw[if_pos (by decide+kernel)];kernel_rfl)|(rw[if_neg (by decide+kernel)];exact⟨rfl,rfl⟩))
  (fun os started H enc _=>ssta_lifted os started H enc)
