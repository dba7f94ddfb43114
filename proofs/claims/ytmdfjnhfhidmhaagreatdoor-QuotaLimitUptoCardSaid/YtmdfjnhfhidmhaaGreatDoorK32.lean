/-
  Walks and laws that the claim's theorem uses: texts RhT RhX, joined; comments out. Conditions: as each theorem says.
-/
import Derived.Test.YtmdfjnhfhidmhaaGreatDoorK31
import Derived.Test.YtmdfjnhfhidmhaaGreatDoorK09
import Derived.Deep.RegionHeld3
set_option linter.all false
namespace Go.Proofs.YtmdfjnhfhidmhaaGreatDoor
open Go.RowKit
end Go.Proofs.YtmdfjnhfhidmhaaGreatDoor
