/- Lemmas for the claim's theorem;conditions: as each says. -/
import Derived.Test.YtmdfjnhfhidmhaaGreatDoorQ31
import Derived.Test.YtmdfjnhfhidmhaaGreatDoorQ16
import Derived.Deep.RegionHeld3
set_option linter.all false
namespace Go.Proofs.YtmdfjnhfhidmhaaGreatDoor
open Go.RowKit
