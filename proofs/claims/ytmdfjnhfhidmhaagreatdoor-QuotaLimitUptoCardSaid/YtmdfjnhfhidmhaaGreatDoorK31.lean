/-
  Walks and laws that the claim's theorem uses: texts RhR, joined; comments out. Conditions: as each theorem says.
-/
import Derived.Test.YtmdfjnhfhidmhaaGreatDoorK13
set_option linter.all false
namespace Go.Proofs.YtmdfjnhfhidmhaaGreatDoor
open Go.RowKit
end Go.Proofs.YtmdfjnhfhidmhaaGreatDoor
