/-
  For every input the statement ExportResults returns true,and its arguments read as they did before.
  Conditions: those of the tied card alone (the listed package-level variables hold what the program lays).
-/
import Derived.Test.YtkipnpjagcfcpaaGreatDoorZRser
set_option linter.all false
namespace Go.Proofs.YtkipnpjagcfcpaaGreatDoor
open Go.ChangeShapes Go.WideShapes Go.ChangeAt Go.RowKit
theorem Xxz:(Rows.exportResultsRow.inPlace==Tryz.prog.inPlace 3)=true:=by kernel_rfl
theorem Xxy:(Rows.exportResultsRow.unfollowed==Tryz.prog.unfollowed 3)=true:=by kernel_rfl
theorem Xxx:(Rows.exportResultsRow.recurses==Tryz.prog.recurses 3)=true:=by kernel_rfl
theorem Xxw:(Rows.exportResultsRow.named==Tryz.prog.varsNamed 3)=true:=by kernel_rfl
theorem Xxv:Tryz.prog.stopsHeard=true:=by kernel_rfl
theorem Xxu:Tryz.prog.mayEnter=true:=by kernel_rfl
theorem Xxt:(Rows.exportResultsRow.lifted==Tryz.prog.liftsFinal)=true:=by kernel_rfl
theorem Xxs:(Tryz.prog.make==some Rows.exportResultsRow.make)=true:=by kernel_rfl
theorem Xxr:(Rows.exportResultsRow.plainKeys==Tryz.prog.plainKeys)=true:=by kernel_rfl
theorem Xos:joinedFacts Tryz.prog 3 Tryz.f3 Rows.exportResultsSpec Rows.exportResultsRow=true:=by
 unfold joinedFacts;rw[Xxz,Xxy,Xxx,Xxw,Xxv,Xxu,Xxt,Xxs,Xxr];kernel_rfl
theorem eres_row:Rows.ExportResultsSaid:=
 OpenClaim.holds_of_wide 3 Tryz.f3 rfl rfl rfl rfl rfl rfl rfl ⟨rfl,rfl,rfl,rfl,rfl⟩ rfl rfl rfl rfl rfl (by kernel_rfl) Tryz.func3 Xos
  (of_decide_eq_true (by kernel_rfl)) (by unfold Func.isWrapper;first|(rw[if_pos (by decide+kernel)];kernel_rfl)|(rw[if_neg (by decide+kernel)];exact⟨rfl,rfl⟩))
  (fun os started H enc _=>eres_lifted os started H enc)
