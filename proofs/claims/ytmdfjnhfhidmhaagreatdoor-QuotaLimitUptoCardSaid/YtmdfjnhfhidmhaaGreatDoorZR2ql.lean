/-
  For every input within the bound of the second form the statement QuotaLimit returns true, and its arguments read as they did before.
  Conditions: those of the tied card alone (the listed package-level variables hold what the program lays).
-/
import Derived.Test.YtmdfjnhfhidmhaaGreatDoorZRsql
set_option linter.all false
namespace Go.Proofs.YtmdfjnhfhidmhaaGreatDoor
open Go.ChangeShapes Go.WideShapes Go.ChangeAt Go.RowKit
theorem qlim_k1:(Rows.quotaLimitUptoRow.inPlace==Tryz.prog.inPlace 13)=true:=by kernel_rfl
theorem qlim_k2:(Rows.quotaLimitUptoRow.unfollowed==Tryz.prog.unfollowed 13)=true:=by kernel_rfl
theorem qlim_k3:(Rows.quotaLimitUptoRow.recurses==Tryz.prog.recurses 13)=true:=by kernel_rfl
theorem qlim_k4:(Rows.quotaLimitUptoRow.named==Tryz.prog.varsNamed 13)=true:=by kernel_rfl
theorem qlim_k5:Tryz.prog.stopsHeard=true:=by kernel_rfl
theorem qlim_k6:Tryz.prog.mayEnter=true:=by kernel_rfl
theorem qlim_k7:(Rows.quotaLimitUptoRow.lifted==Tryz.prog.liftsFinal)=true:=by kernel_rfl
theorem qlim_k8:(Tryz.prog.make==some Rows.quotaLimitUptoRow.make)=true:=by kernel_rfl
theorem qlim_k9:(Rows.quotaLimitUptoRow.plainKeys==Tryz.prog.plainKeys)=true:=by kernel_rfl
theorem qlim_closed:joinedFacts Tryz.prog 13 Tryz.f13 (Rows.OpenSpec.upto Rows.quotaLimitSpec).bare Rows.quotaLimitUptoRow=true:=by
 unfold joinedFacts
 rw [qlim_k1,qlim_k2,qlim_k3,qlim_k4,qlim_k5,qlim_k6,qlim_k7,qlim_k8,qlim_k9]
 kernel_rfl
theorem qlim_row:Rows.QuotaLimitUptoSaid:=
 OpenClaim.holds_of_cond 13 Tryz.f13 rfl rfl rfl rfl rfl rfl rfl ⟨rfl,rfl,rfl,rfl,rfl⟩ rfl rfl rfl rfl rfl (by kernel_rfl) Tryz.func13 qlim_closed
  (of_decide_eq_true (by kernel_rfl)) (by unfold Func.isWrapper;first|(rw [if_pos (by decide +kernel)];kernel_rfl)|(rw [if_neg (by decide +kernel)];exact ⟨rfl,rfl⟩))
  (fun os started H enc _ F=>by rw [OpenClaim.pre_eq_preRow];exact qlim_lifted os started H enc F)
end Go.Proofs.YtmdfjnhfhidmhaaGreatDoor
