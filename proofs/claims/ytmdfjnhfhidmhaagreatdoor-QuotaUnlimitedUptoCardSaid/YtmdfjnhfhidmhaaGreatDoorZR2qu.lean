/-
  For every input within the bound of the second form the statement QuotaUnlimited returns true, and its arguments read as they did before.
  Conditions: those of the tied card alone (the listed package-level variables hold what the program lays).
-/
import Derived.Test.YtmdfjnhfhidmhaaGreatDoorZRsqu
set_option linter.all false
namespace Go.Proofs.YtmdfjnhfhidmhaaGreatDoor
open Go.ChangeShapes Go.WideShapes Go.ChangeAt Go.RowKit
theorem qunl_k1:(Rows.quotaUnlimitedUptoRow.inPlace==Tryz.prog.inPlace 5)=true:=by kernel_rfl
theorem qunl_k2:(Rows.quotaUnlimitedUptoRow.unfollowed==Tryz.prog.unfollowed 5)=true:=by kernel_rfl
theorem qunl_k3:(Rows.quotaUnlimitedUptoRow.recurses==Tryz.prog.recurses 5)=true:=by kernel_rfl
theorem qunl_k4:(Rows.quotaUnlimitedUptoRow.named==Tryz.prog.varsNamed 5)=true:=by kernel_rfl
theorem qunl_k5:Tryz.prog.stopsHeard=true:=by kernel_rfl
theorem qunl_k6:Tryz.prog.mayEnter=true:=by kernel_rfl
theorem qunl_k7:(Rows.quotaUnlimitedUptoRow.lifted==Tryz.prog.liftsFinal)=true:=by kernel_rfl
theorem qunl_k8:(Tryz.prog.make==some Rows.quotaUnlimitedUptoRow.make)=true:=by kernel_rfl
theorem qunl_k9:(Rows.quotaUnlimitedUptoRow.plainKeys==Tryz.prog.plainKeys)=true:=by kernel_rfl
theorem qunl_closed:joinedFacts Tryz.prog 5 Tryz.f5 (Rows.OpenSpec.upto Rows.quotaUnlimitedSpec).bare Rows.quotaUnlimitedUptoRow=true:=by
 unfold joinedFacts
 rw [qunl_k1,qunl_k2,qunl_k3,qunl_k4,qunl_k5,qunl_k6,qunl_k7,qunl_k8,qunl_k9]
 kernel_rfl
theorem qunl_row:Rows.QuotaUnlimitedUptoSaid:=
 OpenClaim.holds_of_cond 5 Tryz.f5 rfl rfl rfl rfl rfl rfl rfl ⟨rfl,rfl,rfl,rfl,rfl⟩ rfl rfl rfl rfl rfl (by kernel_rfl) Tryz.func5 qunl_closed
  (of_decide_eq_true (by kernel_rfl)) (by unfold Func.isWrapper;first|(rw [if_pos (by decide +kernel)];kernel_rfl)|(rw [if_neg (by decide +kernel)];exact ⟨rfl,rfl⟩))
  (fun os started H enc _ F=>by rw [OpenClaim.pre_eq_preRow];exact qunl_lifted os started H enc F)
end Go.Proofs.YtmdfjnhfhidmhaaGreatDoor
