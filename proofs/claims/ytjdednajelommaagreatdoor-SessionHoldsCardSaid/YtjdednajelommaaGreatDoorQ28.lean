/-
  Walks and laws that the claim's theorem uses: texts RhR RhT, joined; comments out. Conditions: as each theorem says.
-/
import Derived.Test.YtjdednajelommaaGreatDoorQ14
import Derived.Deep.RegionHeld3
namespace Go.Proofs.YtjdednajelommaaGreatDoor
open Go.RowKit
end Go.Proofs.YtjdednajelommaaGreatDoor
