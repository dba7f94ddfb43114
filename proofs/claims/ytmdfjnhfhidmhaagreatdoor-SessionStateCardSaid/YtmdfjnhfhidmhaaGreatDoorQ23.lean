/- Lemmas for the claim's theorem;conditions: as each says. -/
import Derived.Test.YtmdfjnhfhidmhaaGreatDoorQ22
set_option linter.all false
namespace Go.Proofs.YtmdfjnhfhidmhaaGreatDoor
open Go.RowKit
structure DM (w:World) (B:Nat) (l:List Int) (X:World):Prop where
 below:Below w.heap.size w X
 le:w.heap.size≤B
 lt:B<X.heap.size
 rX:X.heap[B]?=some (.cells (row l) 206 (0,0))
def DgR(w:World)(B:Nat)(s:af)(v4 v5:Value)(X:World):Prop:=
 (∃i:Nat,i≤nV s∧64*i≤s.length∧v4= .int .i64 (64*(i:Int))∧v5= .bool false∧DM w B (hAt s i) X)∨(v4= .int .i64 (s.length:Int)∧v5= .bool true∧DM w B (jM s) X)
def bOf:Value→Nat
 | .bool true=>0
 |_=>1
theorem Xr3(G:List Int)(hG:G.length=8):(ku G 8).length=32:=by
 obtain⟨a,b,c,d,e,f,g,h,rfl⟩:=NH hG;rfl
def Om(s:af)(k:Nat):af:=if k=0 then []else s
