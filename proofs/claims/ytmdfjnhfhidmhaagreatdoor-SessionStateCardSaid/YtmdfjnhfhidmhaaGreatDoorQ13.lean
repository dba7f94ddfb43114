/- Lemmas for the claim's theorem;conditions: as each says. -/
import Derived.Test.YtmdfjnhfhidmhaaGreatDoorQ12
set_option linter.all false
namespace Go.Proofs.YtmdfjnhfhidmhaaGreatDoor
open Go.RowKit
theorem Xqg:dx Tryz.prog 37 81 bJ 112:=dx.of Tryz.underlying37 JQ rfl (by decide) rfl
