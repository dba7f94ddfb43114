/-
  For every input the statement ExportPrefix returns true,and its arguments read as they did before.
  Conditions: those of the tied card alone (the listed package-level variables hold what the program lays).
-/
import Derived.Test.YtkipnpjagcfcpaaGreatDoorZRsep
set_option linter.all false
namespace Go.Proofs.YtkipnpjagcfcpaaGreatDoor
open Go.ChangeShapes Go.WideShapes Go.ChangeAt Go.RowKit
theorem Xx8:(Rows.exportPrefixRow.inPlace==Tryz.prog.inPlace 4)=true:=by kernel_rfl
theorem Xx7:(Rows.exportPrefixRow.unfollowed==Tryz.prog.unfollowed 4)=true:=by kernel_rfl
theorem Xx6:(Rows.exportPrefixRow.recurses==Tryz.prog.recurses 4)=true:=by kernel_rfl
theorem Xx5:(Rows.exportPrefixRow.named==Tryz.prog.varsNamed 4)=true:=by kernel_rfl
theorem Xx4:Tryz.prog.stopsHeard=true:=by kernel_rfl
theorem Xx3:Tryz.prog.mayEnter=true:=by kernel_rfl
theorem Xx2:(Rows.exportPrefixRow.lifted==Tryz.prog.liftsFinal)=true:=by kernel_rfl
theorem Xx1:(Tryz.prog.make==some Rows.exportPrefixRow.make)=true:=by kernel_rfl
theorem Xx0:(Rows.exportPrefixRow.plainKeys==Tryz.prog.plainKeys)=true:=by kernel_rfl
theorem Xot:joinedFacts Tryz.prog 4 Tryz.f4 Rows.exportPrefixSpec Rows.exportPrefixRow=true:=by
 unfold joinedFacts;rw[Xx8,Xx7,Xx6,Xx5,Xx4,Xx3,Xx2,Xx1,Xx0];kernel_rfl
theorem epre_row:Rows.ExportPrefixSaid:=
 OpenClaim.holds_of_wide 4 Tryz.f4 rfl rfl rfl rfl rfl rfl rfl ⟨rfl,rfl,rfl,rfl,rfl⟩ rfl rfl rfl rfl rfl (by kernel_rfl) Tryz.func4 Xot
  (of_decide_eq_true (by kernel_rfl)) (by unfold Func.isWrapper;first|(rw[if_pos (by decide+kernel)];kernel_rfl)|(rw[if_neg (by decide+kernel)];exact⟨rfl,rfl⟩))
  (fun os started H enc _=>epre_lifted os started H enc)
