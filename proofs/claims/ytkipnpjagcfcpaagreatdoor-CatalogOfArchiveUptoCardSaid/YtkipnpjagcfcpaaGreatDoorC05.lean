/-
  Walks and laws that the claim's theorem uses: texts EnI, joined; comments out. Conditions: as each theorem says.
-/
import Derived.Test.YtkipnpjagcfcpaaGreatDoorC04
set_option linter.all false
namespace Go.Proofs.YtkipnpjagcfcpaaGreatDoor
open Go.RowKit
theorem Xti:ElemOk Tryz.prog 60 35 tEnt 112:=ElemOk.of Tryz.underlying60 Xbp rfl (by decide) rfl
end Go.Proofs.YtkipnpjagcfcpaaGreatDoor
