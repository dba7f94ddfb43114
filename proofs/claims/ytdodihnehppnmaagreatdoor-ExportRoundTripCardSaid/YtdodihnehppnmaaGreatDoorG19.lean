/- Lemmas for the claim's theorem;conditions: as each says. -/
import Derived.Test.YtdodihnehppnmaaGreatDoorG17
import Derived.Test.YtdodihnehppnmaaGreatDoorG18
set_option linter.all false
namespace Go.Proofs.YtdodihnehppnmaaGreatDoor
open Go.RowKit
def XG(e:ay)(z:Int)(d:ae)(l:List Xt×Nat×Int):ay×Nat×Int:=(bW e z d l.1,l.2.1,l.2.2)
def XH(s:ae)(e:ay)(z:Int)(d:ae)(n:Int×Nat×Int):ay×Nat×Int:=XG e z d (I7 s n.1.toNat n.2.1 n.2.2 [])
def XI(s:ae)(e:ay)(z:Int)(d:ae×Nat×Int):ay×Nat×Int:=XH s e z d.1 (BL 65536 s d.2.1 d.2.2)
def XJ(s:ae)(e:ay)(z:Int×Nat×Int):ay×Nat×Int:=XI s e z.1 (mI [] (rdStr s z.2.1) z.2.1 z.2.2)
def alf(s:ae)(a:Nat)(e:ay×Int):ay×Nat×Int:=XJ s e.1 (mI 0 (rdNum s a) a e.2)
def P6(x y:Int)(r:Int×Nat×Int):Xt×Nat×Int:=(⟨x,y,r.1⟩,r.2.1,r.2.2)
def P7(s:ae)(x:Int)(q:Int×Nat×Int):Xt×Nat×Int:=P6 x q.1 (mI 0 (rdNum s q.2.1) q.2.1 q.2.2)
def ad5(s:ae)(p:Int×Nat×Int):Xt×Nat×Int:=P7 s p.1 (mI 0 (rdNum s p.2.1) p.2.1 p.2.2)
structure HrJ (I:IH) (w:World) (m:Nat) (s:ae) (J:IH) (a:Nat) (z:Int) (W:World):Prop where
 mt:lT I w J W
 ex:Ext w.heap.size I J
 fr:∀g,w.heap.size≤g→g≤m→J g=none
 res:W.heap[w.heap.size]?=some (.cells aC 26 (0,0))
 rb:RfB W (w.heap.size+1) s a z
 ge:w.heap.size+2≤m
 sz:m<W.heap.size
section
variable {I J J':IH} {w W W':World} {s:ae} {m a b:Nat} {z y:Int}
end
abbrev dzL(n:Nat)(z:Int)(x:Unit):List (Option Tmp×Value):=
 [(some 86,.agg aC),(some 87,.pointer (some ⟨n+1,0,none⟩)),(some 88,.pointer (some ⟨n+1,0,none⟩)),(some 89,.pointer (some ⟨n+1,2,none⟩)),(some 90,.int .i64 z),(none,undef),(some 5,.int .i64 0),(some 6,.int .i64 z)]
abbrev dkL(n m a:Nat)(e:ay)(va vx:Value)(x:Unit):List (Option Tmp×Value):=
 [(some 91,eT e va vx),(some 92,.pointer (some ⟨n+1,0,none⟩)),(some 93,.pointer (some ⟨n+1,0,none⟩)),(some 94,.pointer (some ⟨n+1,1,none⟩)),(some 95,.int .i64 (a:Int)),(none,undef),(some 5,.int .i64 (a:Int)),(some 6,.int .i64 0)]
