/-
  For every input within the bound of the second form the statement QuotaCharge returns true, and its arguments read as they did before.
  Conditions: those of the tied card alone (the listed package-level variables hold what the program lays).
-/
import Derived.Test.YtmdfjnhfhidmhaaGreatDoorZRsqc
set_option linter.all false
namespace Go.Proofs.YtmdfjnhfhidmhaaGreatDoor
open Go.ChangeShapes Go.WideShapes Go.ChangeAt Go.RowKit
theorem Xsz:(Rows.quotaChargeUptoRow.inPlace==Tryz.prog.inPlace 3)=true:=by kernel_rfl
theorem Xsy:(Rows.quotaChargeUptoRow.unfollowed==Tryz.prog.unfollowed 3)=true:=by kernel_rfl
theorem Xsx:(Rows.quotaChargeUptoRow.recurses==Tryz.prog.recurses 3)=true:=by kernel_rfl
theorem Xsw:(Rows.quotaChargeUptoRow.named==Tryz.prog.varsNamed 3)=true:=by kernel_rfl
theorem Xsv:Tryz.prog.stopsHeard=true:=by kernel_rfl
theorem Xsu:Tryz.prog.mayEnter=true:=by kernel_rfl
theorem Xst:(Rows.quotaChargeUptoRow.lifted==Tryz.prog.liftsFinal)=true:=by kernel_rfl
theorem Xss:(Tryz.prog.make==some Rows.quotaChargeUptoRow.make)=true:=by kernel_rfl
theorem Xsr:(Rows.quotaChargeUptoRow.plainKeys==Tryz.prog.plainKeys)=true:=by kernel_rfl
theorem Xkh:joinedFacts Tryz.prog 3 Tryz.f3 (Rows.OpenSpec.upto Rows.quotaChargeSpec).bare Rows.quotaChargeUptoRow=true:=by
 unfold joinedFacts
 rw [Xsz,Xsy,Xsx,Xsw,Xsv,Xsu,Xst,Xss,Xsr]
 kernel_rfl
theorem qchg_row:Rows.QuotaChargeUptoSaid:=
 OpenClaim.holds_of_cond 3 Tryz.f3 rfl rfl rfl rfl rfl rfl rfl ⟨rfl,rfl,rfl,rfl,rfl⟩ rfl rfl rfl rfl rfl (by kernel_rfl) Tryz.func3 Xkh
  (of_decide_eq_true (by kernel_rfl)) (by unfold Func.isWrapper;first|(rw [if_pos (by decide +kernel)];kernel_rfl)|(rw [if_neg (by decide +kernel)];exact ⟨rfl,rfl⟩))
  (fun os started H enc _ F=>by rw [OpenClaim.pre_eq_preRow];exact qchg_lifted os started H enc F)
end Go.Proofs.YtmdfjnhfhidmhaaGreatDoor
