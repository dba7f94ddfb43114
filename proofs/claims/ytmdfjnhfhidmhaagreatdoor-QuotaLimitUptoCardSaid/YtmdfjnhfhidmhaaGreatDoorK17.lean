/-
  Walks and laws that the claim's theorem uses: texts EnI, joined; comments out. Conditions: as each theorem says.
-/
import Derived.Test.YtmdfjnhfhidmhaaGreatDoorK16
set_option linter.all false
namespace Go.Proofs.YtmdfjnhfhidmhaaGreatDoor
open Go.RowKit
theorem Xrc:ElemOk Tryz.prog 37 81 tEnt 112:=ElemOk.of Tryz.underlying37 Xbf rfl (by decide) rfl
end Go.Proofs.YtmdfjnhfhidmhaaGreatDoor
