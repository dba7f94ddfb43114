/-
  For every input within the bound of the second form the statement QuotaIndependence returns true, and its arguments read as they did before.
  Conditions: those of the tied card alone (the listed package-level variables hold what the program lays).
-/
import Derived.Test.YtmdfjnhfhidmhaaGreatDoorZRsqd
set_option linter.all false
namespace Go.Proofs.YtmdfjnhfhidmhaaGreatDoor
open Go.ChangeShapes Go.WideShapes Go.ChangeAt Go.RowKit
theorem Xsh:(Rows.quotaIndependenceUptoRow.inPlace==Tryz.prog.inPlace 12)=true:=by kernel_rfl
theorem Xsg:(Rows.quotaIndependenceUptoRow.unfollowed==Tryz.prog.unfollowed 12)=true:=by kernel_rfl
theorem Xsf:(Rows.quotaIndependenceUptoRow.recurses==Tryz.prog.recurses 12)=true:=by kernel_rfl
theorem Xse:(Rows.quotaIndependenceUptoRow.named==Tryz.prog.varsNamed 12)=true:=by kernel_rfl
theorem Xsd:Tryz.prog.stopsHeard=true:=by kernel_rfl
theorem Xsc:Tryz.prog.mayEnter=true:=by kernel_rfl
theorem Xsb:(Rows.quotaIndependenceUptoRow.lifted==Tryz.prog.liftsFinal)=true:=by kernel_rfl
theorem Xsa:(Tryz.prog.make==some Rows.quotaIndependenceUptoRow.make)=true:=by kernel_rfl
theorem Xr9:(Rows.quotaIndependenceUptoRow.plainKeys==Tryz.prog.plainKeys)=true:=by kernel_rfl
theorem Xkf:joinedFacts Tryz.prog 12 Tryz.f12 (Rows.OpenSpec.upto Rows.quotaIndependenceSpec).bare Rows.quotaIndependenceUptoRow=true:=by
 unfold joinedFacts
 rw [Xsh,Xsg,Xsf,Xse,Xsd,Xsc,Xsb,Xsa,Xr9]
 kernel_rfl
theorem qind_row:Rows.QuotaIndependenceUptoSaid:=
 OpenClaim.holds_of_cond 12 Tryz.f12 rfl rfl rfl rfl rfl rfl rfl ⟨rfl,rfl,rfl,rfl,rfl⟩ rfl rfl rfl rfl rfl (by kernel_rfl) Tryz.func12 Xkf
  (of_decide_eq_true (by kernel_rfl)) (by unfold Func.isWrapper;first|(rw [if_pos (by decide +kernel)];kernel_rfl)|(rw [if_neg (by decide +kernel)];exact ⟨rfl,rfl⟩))
  (fun os started H enc _ F=>by rw [OpenClaim.pre_eq_preRow];exact qind_lifted os started H enc F)
end Go.Proofs.YtmdfjnhfhidmhaaGreatDoor
