/-
  Walks and laws that the claim's theorem uses: texts BmU, joined; comments out. Conditions: as each theorem says.
-/
import Derived.Test.YtmdfjnhfhidmhaaGreatDoorK21
set_option linter.all false
namespace Go.Proofs.YtmdfjnhfhidmhaaGreatDoor
open Go.RowKit
structure Rm0 (w:World) (hs m:List Int) (X:World):Prop where
 below:Below w.heap.size w X
 size:w.heap.size+1+1<X.heap.size
 b0:X.heap[w.heap.size]? =some (.cells (row hs) 206 (0,0))
 b1:X.heap[w.heap.size+1]? =some (.cells (row (List.replicate 8 0)) 206 (0,0))
 b2:X.heap[w.heap.size+1+1]? =some (.cells (row m) 235 (0,0))
structure Rm (w:World) (BI BV:Nat) (hs m v:List Int) (X:World):Prop extends Rm0 w hs m X where
 lo:w.heap.size+1+1<BI
 mid:BI<BV
 hi:BV<X.heap.size
 bi:X.heap[BI]? =some (.cells (row blkIV) 206 (0,0))
 bv:X.heap[BV]? =some (.cells (row v) 235 (0,0))
section
variable {w X X':World} {BI BV:Nat} {hs m v:List Int}
end
end Go.Proofs.YtmdfjnhfhidmhaaGreatDoor
