/-
  For every input within the bound of the second form the statement CatalogOfArchive returns true, and its arguments read as they did before.
  Conditions: those of the tied card alone (the listed package-level variables hold what the program lays).
-/
import Derived.Test.YtkipnpjagcfcpaaGreatDoorZRsca
set_option linter.all false
namespace Go.Proofs.YtkipnpjagcfcpaaGreatDoor
open Go.ChangeShapes Go.WideShapes Go.ChangeAt Go.RowKit
theorem Xvo:(Rows.catalogOfArchiveUptoRow.inPlace==Tryz.prog.inPlace 5)=true:=by kernel_rfl
theorem Xvn:(Rows.catalogOfArchiveUptoRow.unfollowed==Tryz.prog.unfollowed 5)=true:=by kernel_rfl
theorem Xvm:(Rows.catalogOfArchiveUptoRow.recurses==Tryz.prog.recurses 5)=true:=by kernel_rfl
theorem Xvl:(Rows.catalogOfArchiveUptoRow.named==Tryz.prog.varsNamed 5)=true:=by kernel_rfl
theorem Xvk:Tryz.prog.stopsHeard=true:=by kernel_rfl
theorem Xvj:Tryz.prog.mayEnter=true:=by kernel_rfl
theorem Xvi:(Rows.catalogOfArchiveUptoRow.lifted==Tryz.prog.liftsFinal)=true:=by kernel_rfl
theorem Xvh:(Tryz.prog.make==some Rows.catalogOfArchiveUptoRow.make)=true:=by kernel_rfl
theorem Xvg:(Rows.catalogOfArchiveUptoRow.plainKeys==Tryz.prog.plainKeys)=true:=by kernel_rfl
theorem Xms:joinedFacts Tryz.prog 5 Tryz.f5 (Rows.OpenSpec.upto Rows.catalogOfArchiveSpec).bare Rows.catalogOfArchiveUptoRow=true:=by
 unfold joinedFacts
 rw [Xvo,Xvn,Xvm,Xvl,Xvk,Xvj,Xvi,Xvh,Xvg]
 kernel_rfl
theorem cofa_row:Rows.CatalogOfArchiveUptoSaid:=
 OpenClaim.holds_of_cond 5 Tryz.f5 rfl rfl rfl rfl rfl rfl rfl ⟨rfl,rfl,rfl,rfl,rfl⟩ rfl rfl rfl rfl rfl (by kernel_rfl) Tryz.func5 Xms
  (of_decide_eq_true (by kernel_rfl)) (by unfold Func.isWrapper;first|(rw [if_pos (by decide +kernel)];kernel_rfl)|(rw [if_neg (by decide +kernel)];exact ⟨rfl,rfl⟩))
  (fun os started H enc _ F=>by rw [OpenClaim.pre_eq_preRow];exact cofa_lifted os started H enc F)
end Go.Proofs.YtkipnpjagcfcpaaGreatDoor
