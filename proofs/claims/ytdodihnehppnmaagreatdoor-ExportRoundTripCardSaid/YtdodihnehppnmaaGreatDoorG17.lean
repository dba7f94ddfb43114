/- Lemmas for the claim's theorem;conditions: as each says. -/
import Derived.Test.YtdodihnehppnmaaGreatDoorG16
set_option linter.all false
namespace Go.Proofs.YtdodihnehppnmaaGreatDoor
open Go.RowKit
def Xu(s nm q:ae)(l:List At)(t:ae×Nat×Int):ay×Int:=(⟨kindOf nm,q,l,t.1,0,[],[]⟩,if t.2.2=0∧t.2.1≠s.length then 3 else t.2.2)
def Xv(s nm q:ae)(l:List At×Nat×Int):ay×Int:=Xu s nm q l.1 (mI [] (rdStr s l.2.1) l.2.1 l.2.2)
def Xw(s nm q:ae)(n:Int×Nat×Int):ay×Int:=Xv s nm q (GH s n.1.toNat n.2.1 n.2.2 [])
def Xx(s nm:ae)(q:ae×Nat×Int):ay×Int:=Xw s nm q.1 (BL 400 s q.2.1 q.2.2)
def ala(s:ae)(p:ae×Nat×Int):ay×Int:=Xx s p.1 (mI [] (rdStr s p.2.1) p.2.1 (if p.2.2=0∧kindOf p.1=0 then 3 else p.2.2))
abbrev xhL(n:Nat)(C:Array Value)(z:Int):List (Option Tmp×Value):=
 [(some 87,.agg C),(some 88,dJ (n+1)),(some 89,dJ (n+1)),(some 90,.pointer (some ⟨n+1,2,none⟩)),(some 91,.int .i64 z),(none,undef),(some 3,.int .i64 z)]
theorem ND{fn:Func}{p u:Tmp}{ty t:TypeId}(h:fn.results=#[.cell p ty,.tmp u])(tmps:Array Value)(P:Program)(W:World){g:Nat}{C:Array Value}{d:TypeDesc}(hp:tmps.getD p undef=dJ g)
 (hg:W.heap[g]?=some (.cells C t (0,0))) (hd:(match d with| .struct _| .array _ _=>true|_=>false)=true) (hu:P.underlying ty=some d) (hi:(P.info? ty).map (·.size)=some C.size):
 (results fn tmps).run P W= .ok (.tuple #[.agg C,tmps.getD u undef]) W:=by
 have L1:(loadVar ty ⟨g,0,none⟩).run P W= .ok (.agg C) W:=run_loadVar_row W g t ty C (0,0) d hg hu (by cases d<;>first|rfl|cases hd) hi;have Ou:tmps[p]?.getD undef=dJ g:=by simpa using hp
 simp[results,h,Ou,asAddr,L1,Sem.run_bind,Result.andThen]
structure HrM (I:IH) (w:World) (s:ae) (a:Nat) (z:Int) (W:World):Prop where
 mt:lT I w I W
 res:W.heap[w.heap.size]?=some (.cells aC 26 (0,0))
 rb:RfB W (w.heap.size+1) s a z
 sz:w.heap.size+3≤W.heap.size
section
variable {I:IH} {w W W':World} {s:ae} {a b:Nat} {z y:Int}
end
