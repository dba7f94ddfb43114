/-
  For every input within the bound of the second form the statement QuotaCheck returns true, and its arguments read as they did before.
  Conditions: those of the tied card alone (the listed package-level variables hold what the program lays).
-/
import Derived.Test.YtmdfjnhfhidmhaaGreatDoorZRsqk
set_option linter.all false
namespace Go.Proofs.YtmdfjnhfhidmhaaGreatDoor
open Go.ChangeShapes Go.WideShapes Go.ChangeAt Go.RowKit
theorem Xsq:(Rows.quotaCheckUptoRow.inPlace==Tryz.prog.inPlace 9)=true:=by kernel_rfl
theorem Xsp:(Rows.quotaCheckUptoRow.unfollowed==Tryz.prog.unfollowed 9)=true:=by kernel_rfl
theorem Xso:(Rows.quotaCheckUptoRow.recurses==Tryz.prog.recurses 9)=true:=by kernel_rfl
theorem Xsn:(Rows.quotaCheckUptoRow.named==Tryz.prog.varsNamed 9)=true:=by kernel_rfl
theorem Xsm:Tryz.prog.stopsHeard=true:=by kernel_rfl
theorem Xsl:Tryz.prog.mayEnter=true:=by kernel_rfl
theorem Xsk:(Rows.quotaCheckUptoRow.lifted==Tryz.prog.liftsFinal)=true:=by kernel_rfl
theorem Xsj:(Tryz.prog.make==some Rows.quotaCheckUptoRow.make)=true:=by kernel_rfl
theorem Xsi:(Rows.quotaCheckUptoRow.plainKeys==Tryz.prog.plainKeys)=true:=by kernel_rfl
theorem Xkg:joinedFacts Tryz.prog 9 Tryz.f9 (Rows.OpenSpec.upto Rows.quotaCheckSpec).bare Rows.quotaCheckUptoRow=true:=by
 unfold joinedFacts
 rw [Xsq,Xsp,Xso,Xsn,Xsm,Xsl,Xsk,Xsj,Xsi]
 kernel_rfl
theorem qchk_row:Rows.QuotaCheckUptoSaid:=
 OpenClaim.holds_of_cond 9 Tryz.f9 rfl rfl rfl rfl rfl rfl rfl ⟨rfl,rfl,rfl,rfl,rfl⟩ rfl rfl rfl rfl rfl (by kernel_rfl) Tryz.func9 Xkg
  (of_decide_eq_true (by kernel_rfl)) (by unfold Func.isWrapper;first|(rw [if_pos (by decide +kernel)];kernel_rfl)|(rw [if_neg (by decide +kernel)];exact ⟨rfl,rfl⟩))
  (fun os started H enc _ F=>by rw [OpenClaim.pre_eq_preRow];exact qchk_lifted os started H enc F)
end Go.Proofs.YtmdfjnhfhidmhaaGreatDoor
