/-
  Walks and laws that the claim's theorem uses: texts CkF, joined; comments out. Conditions: as each theorem says.
-/
import Derived.Test.YtmdfjnhfhidmhaaGreatDoorK23
import Derived.Tactics
set_option linter.all false
namespace Go.Proofs.YtmdfjnhfhidmhaaGreatDoor
open Go.RowKit
theorem Xa4 {fn:Func} {p u q:Tmp} {ty:TypeId} (h:fn.results= #[.cell p ty,.tmp u,.tmp q]) (tmps:Array Value) (P:Program) (w:World):
 (results fn tmps).run P w=
   ((asAddr (tmps.getD p undef)).run P w).andThen fun a w₁=>((loadVar ty a).run P w₁).andThen fun v w₂=> .ok (.tuple #[v,tmps.getD u undef,tmps.getD q undef]) w₂:=by
 simp only [results,h]
 simp [Sem.run_bind,Result.andThen]
structure StoOk (L C:Nat) (s:Sto):Prop where
 i0: -9223372036854775808≤s.ses
 i1:s.ses≤9223372036854775807
 str:s.str.length≤L
 cks:s.cks.length≤C
 cx:∀c∈s.cks,XB 65536 c.x
def PutR (I:IH) (w:World) (p:Sto × List Xt × Int) (e:Ending) (w':World):Prop:=
 ∃vc' vx' I',e= .returned (.tuple #[stoV p.1 vc',vx',.int .i64 p.2.2])∧Below w.heap.size w w'∧Ext w.heap.size I I'∧Ok I' w'∧RdS tCk I' vc' p.1.cks∧RdS tXt I' vx' p.2.1
abbrev pkRow (dg:Bytes) (y:Xt):Array Value:= #[S dg,.int .i64 y.s,.int .i64 y.o,.int .i64 y.n]
abbrev pkL (n:Nat) (vk:Value) (dg:Bytes) (y:Xt) (x:A2X):List (Option Tmp × Value):=
 [(some 96,.slice (some ⟨x.e,0,none⟩) 0 0),(some 97,.pointer (some ⟨n,0,none⟩)),(some 98,vk),(some 99,x.v1),(some 100,S dg),(some 101,.agg #[.int .i64 y.s,.int .i64 y.o,.int .i64 y.n]),(some 102,.agg (pkRow dg y)),
  (some 103,.slice (some ⟨x.b,0,none⟩) 1 1),(some 104,x.v2),(some 105,.pointer (some ⟨n,0,none⟩)),(none,undef)]
def PkC (n:Nat) (J:IH) (w3:World) (l:List Ck) (dg:Bytes) (y:Xt) (x:A2X) (s:Array Bool) (w:World):Prop:=
 (s.getD 10 false=false→A2C tCk 156 J w3 l ⟨dg,y⟩ (pkRow dg y) 0 3 7 8 x s w)∧(s.getD 10 false=true→ ∃w0,OwnS tCk 156 J w0 w3.heap.size x.v2 (l++ [⟨dg,y⟩])∧Below w3.heap.size w3 w0∧w=w0.setCell ⟨n,0,none⟩ x.v2)
end Go.Proofs.YtmdfjnhfhidmhaaGreatDoor
