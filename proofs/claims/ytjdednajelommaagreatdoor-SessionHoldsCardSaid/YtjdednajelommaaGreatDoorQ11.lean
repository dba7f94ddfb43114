/-
  Walks and laws that the claim's theorem uses: texts EnI, joined; comments out. Conditions: as each theorem says.
-/
import Derived.Test.YtjdednajelommaaGreatDoorQ10
namespace Go.Proofs.YtjdednajelommaaGreatDoor
open Go.RowKit
theorem Xtw:ElemOk Tryz.prog 40 68 tEnt 112:=ElemOk.of Tryz.underlying40 Xbo rfl (by decide) rfl
end Go.Proofs.YtjdednajelommaaGreatDoor
