/-
  For every input the statement SessionAtomic returns true, and its arguments read as they did before.
  Conditions: those of the tied card alone (the listed package-level variables hold what the program lays).
-/
import Derived.Test.YtjdednajelommaaGreatDoorZRst
set_option linter.unusedSimpArgs false
set_option linter.unusedVariables false
namespace Go.Proofs.YtjdednajelommaaGreatDoor
open Go.ChangeShapes Go.WideShapes Go.ChangeAt Go.RowKit
theorem Xvu:(Rows.sessionAtomicRow.inPlace==Tryz.prog.inPlace 6)=true:=by kernel_rfl
theorem Xvt:(Rows.sessionAtomicRow.unfollowed==Tryz.prog.unfollowed 6)=true:=by kernel_rfl
theorem Xvs:(Rows.sessionAtomicRow.recurses==Tryz.prog.recurses 6)=true:=by kernel_rfl
theorem Xvr:(Rows.sessionAtomicRow.named==Tryz.prog.varsNamed 6)=true:=by kernel_rfl
theorem Xvq:Tryz.prog.stopsHeard=true:=by kernel_rfl
theorem Xvp:Tryz.prog.mayEnter=true:=by kernel_rfl
theorem Xvo:(Rows.sessionAtomicRow.lifted==Tryz.prog.liftsFinal)=true:=by kernel_rfl
theorem Xvn:(Tryz.prog.make==some Rows.sessionAtomicRow.make)=true:=by kernel_rfl
theorem Xvm:(Rows.sessionAtomicRow.plainKeys==Tryz.prog.plainKeys)=true:=by kernel_rfl
theorem Xmh:joinedFacts Tryz.prog 6 Tryz.f6 Rows.sessionAtomicSpec Rows.sessionAtomicRow=true:=by
 unfold joinedFacts
 rw [Xvu,Xvt,Xvs,Xvr,Xvq,Xvp,Xvo,Xvn,Xvm]
 kernel_rfl
theorem satm_row:Rows.SessionAtomicSaid:=
 OpenClaim.holds_of_wide 6 Tryz.f6 rfl rfl rfl rfl rfl rfl rfl ⟨rfl,rfl,rfl,rfl,rfl⟩ rfl rfl rfl rfl rfl (by kernel_rfl) Tryz.func6 Xmh
  (of_decide_eq_true (by kernel_rfl)) (by unfold Func.isWrapper;first|(rw [if_pos (by decide +kernel)];kernel_rfl)|(rw [if_neg (by decide +kernel)];exact ⟨rfl,rfl⟩))
  (fun os started H enc _=>satm_lifted os started H enc)
end Go.Proofs.YtjdednajelommaaGreatDoor
