/-
  For every input the statement SessionWrites returns true,and its arguments read as they did before.
  Conditions: those of the tied card alone (the listed package-level variables hold what the program lays).
-/
import Derived.Test.YtegieeommgiknaaGreatDoorZRsw
set_option linter.all false
namespace Go.Proofs.YtegieeommgiknaaGreatDoor
open Go.ChangeShapes Go.WideShapes Go.ChangeAt Go.RowKit
theorem Xv7:(Rows.sessionWritesRow.inPlace==Tryz.prog.inPlace 3)=true:=by kernel_rfl
theorem Xv6:(Rows.sessionWritesRow.unfollowed==Tryz.prog.unfollowed 3)=true:=by kernel_rfl
theorem Xv5:(Rows.sessionWritesRow.recurses==Tryz.prog.recurses 3)=true:=by kernel_rfl
theorem Xv4:(Rows.sessionWritesRow.named==Tryz.prog.varsNamed 3)=true:=by kernel_rfl
theorem Xv3:Tryz.prog.stopsHeard=true:=by kernel_rfl
theorem Xv2:Tryz.prog.mayEnter=true:=by kernel_rfl
theorem Xv1:(Rows.sessionWritesRow.lifted==Tryz.prog.liftsFinal)=true:=by kernel_rfl
theorem Xv0:(Tryz.prog.make==some Rows.sessionWritesRow.make)=true:=by kernel_rfl
theorem Xvz:(Rows.sessionWritesRow.plainKeys==Tryz.prog.plainKeys)=true:=by kernel_rfl
theorem Xnh:joinedFacts Tryz.prog 3 Tryz.f3 Rows.sessionWritesSpec Rows.sessionWritesRow=true:=by
 unfold joinedFacts;rw[Xv7,Xv6,Xv5,Xv4,Xv3,Xv2,Xv1,Xv0,Xvz];kernel_rfl
theorem swrt_row:Rows.SessionWritesSaid:=
 OpenClaim.holds_of_wide 3 Tryz.f3 rfl rfl rfl rfl rfl rfl rfl ⟨rfl,rfl,rfl,rfl,rfl⟩ rfl rfl rfl rfl rfl (by kernel_rfl) Tryz.func3 Xnh
  (of_decide_eq_true (by kernel_rfl)) (by unfold Func.isWrapper;first|(rw[if_pos (by decide+kernel)];kernel_rfl)|(rw[if_neg (by decide+kernel)];exact⟨rfl,rfl⟩))
  (fun os started H enc _=>swrt_lifted os started H enc)
