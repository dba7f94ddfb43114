/-
  For every input the statement SessionAdds returns true,and its arguments read as they did before.
  Conditions: those of the tied card alone (the listed package-level variables hold what the program lays).
-/
import Derived.Test.YtegieeommgiknaaGreatDoorZRsa
set_option linter.all false
namespace Go.Proofs.YtegieeommgiknaaGreatDoor
open Go.ChangeShapes Go.WideShapes Go.ChangeAt Go.RowKit
theorem Xwn:(Rows.sessionAddsRow.inPlace==Tryz.prog.inPlace 4)=true:=by kernel_rfl
theorem Xwm:(Rows.sessionAddsRow.unfollowed==Tryz.prog.unfollowed 4)=true:=by kernel_rfl
theorem Xwl:(Rows.sessionAddsRow.recurses==Tryz.prog.recurses 4)=true:=by kernel_rfl
theorem Xwk:(Rows.sessionAddsRow.named==Tryz.prog.varsNamed 4)=true:=by kernel_rfl
theorem Xwj:Tryz.prog.stopsHeard=true:=by kernel_rfl
theorem Xwi:Tryz.prog.mayEnter=true:=by kernel_rfl
theorem Xwh:(Rows.sessionAddsRow.lifted==Tryz.prog.liftsFinal)=true:=by kernel_rfl
theorem Xwg:(Tryz.prog.make==some Rows.sessionAddsRow.make)=true:=by kernel_rfl
theorem Xwf:(Rows.sessionAddsRow.plainKeys==Tryz.prog.plainKeys)=true:=by kernel_rfl
theorem Xnl:joinedFacts Tryz.prog 4 Tryz.f4 Rows.sessionAddsSpec Rows.sessionAddsRow=true:=by
 unfold joinedFacts;rw[Xwn,Xwm,Xwl,Xwk,Xwj,Xwi,Xwh,Xwg,Xwf];kernel_rfl
theorem sadd_row:Rows.SessionAddsSaid:=
 OpenClaim.holds_of_wide 4 Tryz.f4 rfl rfl rfl rfl rfl rfl rfl ⟨rfl,rfl,rfl,rfl,rfl⟩ rfl rfl rfl rfl rfl (by kernel_rfl) Tryz.func4 Xnl
  (of_decide_eq_true (by kernel_rfl)) (by unfold Func.isWrapper;first|(rw[if_pos (by decide+kernel)];kernel_rfl)|(rw[if_neg (by decide+kernel)];exact⟨rfl,rfl⟩))
  (fun os started H enc _=>sadd_lifted os started H enc)
