/-
  For every input within the bound of the second form the statement QuotaEntries returns true, and its arguments read as they did before.
  Conditions: those of the tied card alone (the listed package-level variables hold what the program lays).
-/
import Derived.Test.YtmdfjnhfhidmhaaGreatDoorZRsqe
set_option linter.all false
namespace Go.Proofs.YtmdfjnhfhidmhaaGreatDoor
open Go.ChangeShapes Go.WideShapes Go.ChangeAt Go.RowKit
theorem Xs0:(Rows.quotaEntriesUptoRow.inPlace==Tryz.prog.inPlace 11)=true:=by kernel_rfl
theorem Xsz:(Rows.quotaEntriesUptoRow.unfollowed==Tryz.prog.unfollowed 11)=true:=by kernel_rfl
theorem Xsy:(Rows.quotaEntriesUptoRow.recurses==Tryz.prog.recurses 11)=true:=by kernel_rfl
theorem Xsx:(Rows.quotaEntriesUptoRow.named==Tryz.prog.varsNamed 11)=true:=by kernel_rfl
theorem Xsw:Tryz.prog.stopsHeard=true:=by kernel_rfl
theorem Xsv:Tryz.prog.mayEnter=true:=by kernel_rfl
theorem Xsu:(Rows.quotaEntriesUptoRow.lifted==Tryz.prog.liftsFinal)=true:=by kernel_rfl
theorem Xst:(Tryz.prog.make==some Rows.quotaEntriesUptoRow.make)=true:=by kernel_rfl
theorem Xss:(Rows.quotaEntriesUptoRow.plainKeys==Tryz.prog.plainKeys)=true:=by kernel_rfl
theorem Xkd:joinedFacts Tryz.prog 11 Tryz.f11 (Rows.OpenSpec.upto Rows.quotaEntriesSpec).bare Rows.quotaEntriesUptoRow=true:=by
 unfold joinedFacts
 rw [Xs0,Xsz,Xsy,Xsx,Xsw,Xsv,Xsu,Xst,Xss]
 kernel_rfl
theorem qent_row:Rows.QuotaEntriesUptoSaid:=
 OpenClaim.holds_of_cond 11 Tryz.f11 rfl rfl rfl rfl rfl rfl rfl ⟨rfl,rfl,rfl,rfl,rfl⟩ rfl rfl rfl rfl rfl (by kernel_rfl) Tryz.func11 Xkd
  (of_decide_eq_true (by kernel_rfl)) (by unfold Func.isWrapper;first|(rw [if_pos (by decide +kernel)];kernel_rfl)|(rw [if_neg (by decide +kernel)];exact ⟨rfl,rfl⟩))
  (fun os started H enc _ F=>by rw [OpenClaim.pre_eq_preRow];exact qent_lifted os started H enc F)
end Go.Proofs.YtmdfjnhfhidmhaaGreatDoor
