/-
  Walks and laws that the claim's theorem uses: texts BmR BmT, joined; comments out. Conditions: as each theorem says.
-/
import Derived.Test.YtmdfjnhfhidmhaaGreatDoorK08
set_option linter.all false
namespace Go.Proofs.YtmdfjnhfhidmhaaGreatDoor
open Go.RowKit
def four (l:List Int) (a b c d:Nat) (va vb vc vd:Int):List Int:=(((l.set a va).set b vb).set c vc).set d vd
structure Apart (n a b c d:Nat):Prop where
 la:a<n
 lb:b<n
 lc:c<n
 ld:d<n
 ab:a≠b
 ac:a≠c
 ad:a≠d
 bc:b≠c
 bd:b≠d
 cd:c≠d
section
variable {l:List Int} {a b c d:Nat} {va vb vc vd:Int}
end
structure MixM (w:World) (t:TypeId) (l:List Int) (a b c d:Nat) (va vb vc vd:Int) (X:World):Prop where
 row_:X.heap[w.heap.size]? =some (.cells (row (four l a b c d va vb vc vd)) t (0,0))
 zero:X.heap[w.heap.size+1]? =some (.cells (row (List.replicate 16 0)) t (0,0))
 below:Below w.heap.size w X
section
variable {w X X':World} {t:TypeId} {l:List Int} {a b c d:Nat} {va vb vc vd:Int}
end
def pW (s:Bytes) (j:Nat):Nat→Int
 |0=>0
 |1=>byteI s (4*j)
 |2=>bits .or .u32 (byteI s (4*j)) (byteI s (4*j+1)*256%4294967296)
 |3=>bits .or .u32 (bits .or .u32 (byteI s (4*j)) (byteI s (4*j+1)*256%4294967296)) (byteI s (4*j+2)*65536%4294967296)
 |_=>wordAt s j
def refW (s:Bytes) (k:Nat):List Int:=(List.range 16).map fun j=>pW s j (k-4*j)
def vFill (hs:List Int) (k:Nat):List Int:=(List.range 16).map fun j=>if j<8 then (if j<k then hs.getD j 0 else 0) else (if j-8<k then blkIV.getD (j-8) 0 else 0)
def refPerms:List Bytes:= [[48,49,50,51,52,53,54,55,56,57,97,98,99,100,101,102],[101,97,52,56,57,102,100,54,49,99,48,50,98,55,53,51],[98,56,99,48,53,50,102,100,97,101,51,54,55,49,57,52],[55,57,51,49,100,99,98,101,50,54,53,97,52,48,102,56],[57,48,53,55,50,52,97,102,101,49,98,99,54,56,51,100],[50,99,54,97,48,98,56,51,52,100,55,53,102,101,49,57],[99,53,49,102,101,100,52,97,48,55,54,51,57,50,56,98],[100,98,55,101,99,49,51,57,53,48,102,52,56,54,50,97],[54,102,101,57,98,51,48,56,99,50,100,55,49,52,97,53],[97,50,56,52,55,54,49,53,102,98,57,101,51,99,100,48]]
def refPerm (r:Nat):Bytes:=refPerms.getD r []
def digitP (c:Nat):Nat:=if 97≤c then c-87 else c-48
def quadZ:Array Value:= #[.int .i64 0,.int .i64 0,.int .i64 0,.int .i64 0]
end Go.Proofs.YtmdfjnhfhidmhaaGreatDoor
