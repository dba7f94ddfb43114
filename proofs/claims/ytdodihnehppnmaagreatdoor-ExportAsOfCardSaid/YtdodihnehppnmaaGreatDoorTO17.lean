/-
  Walks and laws that the claim's theorem uses: texts EdH, joined; comments out. Conditions: as each theorem says.
-/
import Derived.Test.YtdodihnehppnmaaGreatDoorTO16
set_option linter.all false
namespace Go.Proofs.YtdodihnehppnmaaGreatDoor
open Go.RowKit
def rfH5 (s nm q:Bytes) (l:List At) (t:Bytes × Nat × Int):Ent × Int:=(⟨kindOf nm,q,l,t.1,0,[],[]⟩,if t.2.2=0∧t.2.1≠s.length then 3 else t.2.2)
def rfH4 (s nm q:Bytes) (l:List At × Nat × Int):Ent × Int:=rfH5 s nm q l.1 (rfT [] (rdStr s l.2.1) l.2.1 l.2.2)
def rfH3 (s nm q:Bytes) (n:Int × Nat × Int):Ent × Int:=rfH4 s nm q (rfA s n.1.toNat n.2.1 n.2.2 [])
def rfH2 (s nm:Bytes) (q:Bytes × Nat × Int):Ent × Int:=rfH3 s nm q.1 (rfC 400 s q.2.1 q.2.2)
def rfH1 (s:Bytes) (p:Bytes × Nat × Int):Ent × Int:=rfH2 s p.1 (rfT [] (rdStr s p.2.1) p.2.1 (if p.2.2=0∧kindOf p.1=0 then 3 else p.2.2))
abbrev xhL (n:Nat) (C:Array Value) (z:Int):List (Option Tmp × Value):=
 [(some 87,.agg C),(some 88,ptrV (n+1)),(some 89,ptrV (n+1)),(some 90,.pointer (some ⟨n+1,2,none⟩)),(some 91,.int .i64 z),(none,undef),(some 3,.int .i64 z)]
theorem Xcc {fn:Func} {p u:Tmp} {ty t:TypeId} (h:fn.results= #[.cell p ty,.tmp u]) (tmps:Array Value) (P:Program) (W:World) {g:Nat} {C:Array Value} {d:TypeDesc} (hp:tmps.getD p undef=ptrV g)
 (hg:W.heap[g]? =some (.cells C t (0,0))) (hd:(match d with| .struct _| .array _ _=>true|_=>false)=true) (hu:P.underlying ty=some d) (hi:(P.info? ty).map (·.size)=some C.size):
 (results fn tmps).run P W= .ok (.tuple #[.agg C,tmps.getD u undef]) W:=by
 have L1:(loadVar ty ⟨g,0,none⟩).run P W= .ok (.agg C) W:=run_loadVar_row W g t ty C (0,0) d hg hu (by cases d<;>first|rfl|cases hd) hi
 have hp':tmps[p]?.getD undef=ptrV g:=by simpa using hp
 simp [results,h,hp',asAddr,L1,Sem.run_bind,Result.andThen]
structure HrM (I:IH) (w:World) (s:Bytes) (a:Nat) (z:Int) (W:World):Prop where
 mt:MAt I w I W
 res:W.heap[w.heap.size]? =some (.cells zeroRow 26 (0,0))
 rb:RfB W (w.heap.size+1) s a z
 sz:w.heap.size+3≤W.heap.size
section
variable {I:IH} {w W W':World} {s:Bytes} {a b:Nat} {z y:Int}
end
end Go.Proofs.YtdodihnehppnmaaGreatDoor
