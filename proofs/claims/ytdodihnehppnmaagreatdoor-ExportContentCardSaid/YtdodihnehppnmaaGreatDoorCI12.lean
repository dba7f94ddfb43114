/-
  Walks and laws that the claim's theorem uses: texts EnI, joined; comments out. Conditions: as each theorem says.
-/
import Derived.Test.YtdodihnehppnmaaGreatDoorCI11
set_option linter.all false
namespace Go.Proofs.YtdodihnehppnmaaGreatDoor
open Go.RowKit
end Go.Proofs.YtdodihnehppnmaaGreatDoor
