/-
  Walks and laws that the claim's theorem uses: texts EdJ, joined; comments out. Conditions: as each theorem says.
-/
import Derived.Test.YtdodihnehppnmaaGreatDoorTO17
import Derived.Test.YtdodihnehppnmaaGreatDoorTO18
set_option linter.all false
namespace Go.Proofs.YtdodihnehppnmaaGreatDoor
open Go.RowKit
def rfE5 (e:Ent) (z:Int) (d:Bytes) (l:List Xt × Nat × Int):Ent × Nat × Int:=(entOn e z d l.1,l.2.1,l.2.2)
def rfE4 (s:Bytes) (e:Ent) (z:Int) (d:Bytes) (n:Int × Nat × Int):Ent × Nat × Int:=rfE5 e z d (rfX s n.1.toNat n.2.1 n.2.2 [])
def rfE3 (s:Bytes) (e:Ent) (z:Int) (d:Bytes × Nat × Int):Ent × Nat × Int:=rfE4 s e z d.1 (rfC 65536 s d.2.1 d.2.2)
def rfE2 (s:Bytes) (e:Ent) (z:Int × Nat × Int):Ent × Nat × Int:=rfE3 s e z.1 (rfT [] (rdStr s z.2.1) z.2.1 z.2.2)
def rfE1 (s:Bytes) (a:Nat) (e:Ent × Int):Ent × Nat × Int:=rfE2 s e.1 (rfT 0 (rdNum s a) a e.2)
def rfX1c (x y:Int) (r:Int × Nat × Int):Xt × Nat × Int:=(⟨x,y,r.1⟩,r.2.1,r.2.2)
def rfX1b (s:Bytes) (x:Int) (q:Int × Nat × Int):Xt × Nat × Int:=rfX1c x q.1 (rfT 0 (rdNum s q.2.1) q.2.1 q.2.2)
def rfX1a (s:Bytes) (p:Int × Nat × Int):Xt × Nat × Int:=rfX1b s p.1 (rfT 0 (rdNum s p.2.1) p.2.1 p.2.2)
structure HrJ (I:IH) (w:World) (m:Nat) (s:Bytes) (J:IH) (a:Nat) (z:Int) (W:World):Prop where
 mt:MAt I w J W
 ex:Ext w.heap.size I J
 fr:∀g,w.heap.size≤g→g≤m→J g=none
 res:W.heap[w.heap.size]? =some (.cells zeroRow 26 (0,0))
 rb:RfB W (w.heap.size+1) s a z
 ge:w.heap.size+2≤m
 sz:m<W.heap.size
section
variable {I J J':IH} {w W W':World} {s:Bytes} {m a b:Nat} {z y:Int}
end
abbrev dzL (n:Nat) (z:Int) (x:Unit):List (Option Tmp × Value):=
 [(some 86,.agg zeroRow),(some 87,.pointer (some ⟨n+1,0,none⟩)),(some 88,.pointer (some ⟨n+1,0,none⟩)),(some 89,.pointer (some ⟨n+1,2,none⟩)),(some 90,.int .i64 z),(none,undef),(some 5,.int .i64 0),(some 6,.int .i64 z)]
abbrev dkL (n m a:Nat) (e:Ent) (va vx:Value) (x:Unit):List (Option Tmp × Value):=
 [(some 91,entV e va vx),(some 92,.pointer (some ⟨n+1,0,none⟩)),(some 93,.pointer (some ⟨n+1,0,none⟩)),(some 94,.pointer (some ⟨n+1,1,none⟩)),(some 95,.int .i64 (a:Int)),(none,undef),(some 5,.int .i64 (a:Int)),(some 6,.int .i64 0)]
end Go.Proofs.YtdodihnehppnmaaGreatDoor
