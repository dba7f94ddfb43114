/-
  Walks and laws that the claim's theorem uses: texts BmV EeC, joined; comments out. Conditions: as each theorem says.
-/
import Derived.Test.YtmdfjnhfhidmhaaGreatDoorK22
import Derived.Test.YtmdfjnhfhidmhaaGreatDoorK18
set_option linter.all false
namespace Go.Proofs.YtmdfjnhfhidmhaaGreatDoor
open Go.RowKit
structure DM (w:World) (B:Nat) (l:List Int) (X:World):Prop where
 below:Below w.heap.size w X
 le:w.heap.size≤B
 lt:B<X.heap.size
 row_:X.heap[B]? =some (.cells (row l) 206 (0,0))
def DgR (w:World) (B:Nat) (s:Bytes) (v4 v5:Value) (X:World):Prop:=
 (∃i:Nat,i≤lastAt s∧64*i≤s.length∧v4= .int .i64 (64*(i:Int))∧v5= .bool false∧DM w B (hAt s i) X)∨(v4= .int .i64 (s.length:Int)∧v5= .bool true∧DM w B (sumWords s) X)
def bOf:Value→Nat
 | .bool true=>0
 |_=>1
def sumPart (s:Bytes) (k:Nat):Bytes:=if k=0 then [] else s
end Go.Proofs.YtmdfjnhfhidmhaaGreatDoor
