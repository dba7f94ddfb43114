/-
  For every input within the bound of the second form the statement QuotaIngest returns true,and its arguments read as they did before.
  Conditions: those of the tied card alone (the listed package-level variables hold what the program lays).
-/
import Derived.Test.YtmdfjnhfhidmhaaGreatDoorZRsqi
set_option linter.all false
namespace Go.Proofs.YtmdfjnhfhidmhaaGreatDoor
open Go.ChangeShapes Go.WideShapes Go.ChangeAt Go.RowKit
theorem Xwa:(Rows.quotaIngestUptoRow.inPlace==Tryz.prog.inPlace 4)=true:=by kernel_rfl
theorem Xv9:(Rows.quotaIngestUptoRow.unfollowed==Tryz.prog.unfollowed 4)=true:=by kernel_rfl
theorem Xv8:(Rows.quotaIngestUptoRow.recurses==Tryz.prog.recurses 4)=true:=by kernel_rfl
theorem Xv7:(Rows.quotaIngestUptoRow.named==Tryz.prog.varsNamed 4)=true:=by kernel_rfl
theorem Xv6:Tryz.prog.stopsHeard=true:=by kernel_rfl
theorem Xv5:Tryz.prog.mayEnter=true:=by kernel_rfl
theorem Xv4:(Rows.quotaIngestUptoRow.lifted==Tryz.prog.liftsFinal)=true:=by kernel_rfl
theorem Xv3:(Tryz.prog.make==some Rows.quotaIngestUptoRow.make)=true:=by kernel_rfl
theorem Xv2:(Rows.quotaIngestUptoRow.plainKeys==Tryz.prog.plainKeys)=true:=by kernel_rfl
theorem Xm0:joinedFacts Tryz.prog 4 Tryz.f4 (Rows.OpenSpec.upto Rows.quotaIngestSpec).bare Rows.quotaIngestUptoRow=true:=by
 unfold joinedFacts;rw[Xwa,Xv9,Xv8,Xv7,Xv6,Xv5,Xv4,Xv3,Xv2];kernel_rfl
theorem qing_row:Rows.QuotaIngestUptoSaid:=
 OpenClaim.holds_of_cond 4 Tryz.f4 rfl rfl rfl rfl rfl rfl rfl ⟨rfl,rfl,rfl,rfl,rfl⟩ rfl rfl rfl rfl rfl (by kernel_rfl) Tryz.func4 Xm0
  (of_decide_eq_true (by kernel_rfl)) (by unfold Func.isWrapper;first|(rw[if_pos (by decide+kernel)];kernel_rfl)|(rw[if_neg (by decide+kernel)];exact⟨rfl,rfl⟩))
  (fun os started H enc _ F=>by rw[OpenClaim.pre_eq_preRow];exact qing_lifted os started H enc F)
