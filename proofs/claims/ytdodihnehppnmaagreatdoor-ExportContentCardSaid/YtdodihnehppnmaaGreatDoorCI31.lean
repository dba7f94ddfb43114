/-
  Walks and laws that the claim's theorem uses: texts RhT RhX StA, joined; comments out. Conditions: as each theorem says.
-/
import Derived.Test.YtdodihnehppnmaaGreatDoorCI30
import Derived.Deep.RegionHeld3
set_option linter.all false
namespace Go.Proofs.YtdodihnehppnmaaGreatDoor
open Go.RowKit

structure ApR (n:Nat) (W:World) (vt vh:Value) (e:Ent) (va vx:Value):Prop where
 s0:W.cell? ⟨n,0,none⟩=some vt
 s1:W.cell? ⟨n,1,none⟩=some vh
 eb:EntB W (n+1) e va vx
 row:W.heap[n+1+1]? =some (.cells #[.slice none 0 0,.slice none 0 0] 136 (0,0))
end Go.Proofs.YtdodihnehppnmaaGreatDoor
