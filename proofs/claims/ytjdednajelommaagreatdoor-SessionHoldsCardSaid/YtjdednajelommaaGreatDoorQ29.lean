/-
  Walks and laws that the claim's theorem uses: texts RhX, joined; comments out. Conditions: as each theorem says.
-/
import Derived.Test.YtjdednajelommaaGreatDoorQ28
namespace Go.Proofs.YtjdednajelommaaGreatDoor
open Go.RowKit
end Go.Proofs.YtjdednajelommaaGreatDoor
