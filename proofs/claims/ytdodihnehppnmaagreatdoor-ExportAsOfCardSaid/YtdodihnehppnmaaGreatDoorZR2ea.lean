/- Lemmas; conditions: as each says. -/
import Derived.Test.YtdodihnehppnmaaGreatDoorZRsea
set_option linter.all false
namespace Go.Proofs.YtdodihnehppnmaaGreatDoor
open Go.ChangeShapes Go.WideShapes Go.ChangeAt Go.RowKit
theorem Xwv:(Rows.exportAsOfRow.inPlace==Tryz.prog.inPlace 6)=true:=by kernel_rfl
theorem Xwu:(Rows.exportAsOfRow.unfollowed==Tryz.prog.unfollowed 6)=true:=by kernel_rfl
theorem Xwt:(Rows.exportAsOfRow.recurses==Tryz.prog.recurses 6)=true:=by kernel_rfl
theorem Xws:(Rows.exportAsOfRow.named==Tryz.prog.varsNamed 6)=true:=by kernel_rfl
theorem Xwr:Tryz.prog.stopsHeard=true:=by kernel_rfl
theorem Xwq:Tryz.prog.mayEnter=true:=by kernel_rfl
theorem Xwp:(Rows.exportAsOfRow.lifted==Tryz.prog.liftsFinal)=true:=by kernel_rfl
theorem Xwo:(Tryz.prog.make==some Rows.exportAsOfRow.make)=true:=by kernel_rfl
theorem Xwn:(Rows.exportAsOfRow.plainKeys==Tryz.prog.plainKeys)=true:=by kernel_rfl
theorem Xnz:joinedFacts Tryz.prog 6 Tryz.f6 Rows.exportAsOfSpec Rows.exportAsOfRow=true:=by
 unfold joinedFacts
 rw [Xwv,Xwu,Xwt,Xws,Xwr,Xwq,Xwp,Xwo,Xwn]
 kernel_rfl
theorem easo_row:Rows.ExportAsOfSaid:=
 OpenClaim.holds_of_wide 6 Tryz.f6 rfl rfl rfl rfl rfl rfl rfl ⟨rfl,rfl,rfl,rfl,rfl⟩ rfl rfl rfl rfl rfl (by kernel_rfl) Tryz.func6 Xnz
  (of_decide_eq_true (by kernel_rfl)) (by unfold Func.isWrapper;first|(rw [if_pos (by decide +kernel)];kernel_rfl)|(rw [if_neg (by decide +kernel)];exact ⟨rfl,rfl⟩))
  (fun os started H enc _=>easo_lifted os started H enc)
end Go.Proofs.YtdodihnehppnmaaGreatDoor
