/-
  Walks and laws that the claim's theorem uses: texts SnY SnZ SoA, joined; comments out. Conditions: as each theorem says.
-/
import Derived.Test.YtmdfjnhfhidmhaaGreatDoorK36
set_option linter.all false
namespace Go.Proofs.YtmdfjnhfhidmhaaGreatDoor
open Go.RowKit
abbrev zeroS:Array Value:= #[.int .i64 0,.int .i64 0,.string ⟨#[]⟩,.slice none 0 0,.string ⟨#[]⟩,.string ⟨#[]⟩]
abbrev zeroA:Array Value:= #[.int .u32 0,.int .i64 0,.int .i64 0,.slice none 0 0]
def RetSe (I:IH) (w:World) (s:Ses) (e:Ending) (w':World):Prop:=
 ∃ve J,e= .returned (sesV s ve)∧Below w.heap.size w w'∧Ext w.heap.size I J∧Ok J w'∧RdS tEnt J ve s.ents
def RetAr (I:IH) (w:World) (ai dt sp:Int) (L:List Ses) (n:Int) (e:Ending) (w':World):Prop:=
 ∃vs J,e= .returned (.tuple #[arcV ai dt sp vs,.int .i64 n])∧Below w.heap.size w w'∧Ext w.heap.size I J∧Ok J w'∧RdS tSes J vs L
abbrev clL (n:Nat) (num date:Int) (prev:Bytes) (eo:Option Addr) (le ec:Nat) (str:Bytes) (x:Option Addr × Nat):List (Option Tmp × Value):=
 [(some 3,.pointer (some ⟨n,0,none⟩)),(some 4,.int .i64 num),(some 5,.pointer (some ⟨n,1,none⟩)),(some 6,.int .i64 date),(some 7,.pointer (some ⟨n,2,none⟩)),(some 8,S prev),(some 9,.pointer (some ⟨n,3,none⟩)),(some 10,.slice eo le ec),(some 11,.slice x.1 le x.2),(some 12,.pointer (some ⟨n,4,none⟩)),(some 13,.pointer (some ⟨n,6,none⟩)),(some 14,S str),(some 15,.agg #[.int .i64 num,.int .i64 date,S prev,.slice x.1 le x.2,S str,.string ⟨#[]⟩]),(none,undef)]
abbrev aqL (n le le1 cp:Nat) (ao:Option Addr) (s:Ses) (ve:Value) (x:Nat × (Option Addr × Nat) × Nat × (Option Addr × Nat)):List (Option Tmp × Value):=
 [(some 41,.slice (some ⟨x.1,0,none⟩) 0 0),(some 42,.pointer (some ⟨n,3,none⟩)),(some 43,.slice ao le cp),(some 44,.slice x.2.1.1 le x.2.1.2),(some 45,sesV s ve),(some 46,.slice (some ⟨x.2.2.1,0,none⟩) 1 1),(some 47,.slice x.2.2.2.1 le1 x.2.2.2.2),(some 48,.pointer (some ⟨n,3,none⟩)),(none,undef)]
structure ApM (I:IH) (w0:World) (ai dt sp:Int) (vs:Value) (s:Ses) (ve:Value) (W:World):Prop where
 at_:MAt I w0 I W
 row:W.heap[w0.heap.size]? =some (.cells #[.int .u32 ai,.int .i64 dt,.int .i64 sp,vs] 63 (0,0))
 ses:SesB W (w0.heap.size+1) s ve
 out:W.heap[w0.heap.size+2]? =some (.cells zeroA 63 (0,0))
abbrev apL (n m le le1 cp:Nat) (ao:Option Addr) (s:Ses) (ve:Value) (x:(Option Addr × Nat) × Nat × (Option Addr × Nat)):List (Option Tmp × Value):=
 [(some 43,.pointer (some ⟨n,3,none⟩)),(some 44,.slice ao le cp),(some 45,.slice x.1.1 le x.1.2),(some 46,sesV s ve),(some 47,.slice (some ⟨x.2.1,0,none⟩) 1 1),(some 48,.slice x.2.2.1 le1 x.2.2.2),(some 49,.pointer (some ⟨m,3,none⟩)),(none,undef)]
structure WrB (J:IH) (w:World) (B:Nat) (d:Drf) (ve vk vt vh:Value):Prop where
 ok:Ok J w
 no:J B=none
 rd:DrRd J d ve vk vt vh
 row:w.heap[B]? =some (.cells #[.int .i64 d.num,.int .i64 d.date,S d.prev,ve,vk,.int .i64 d.sto.ses,S d.sto.str,vt,vh] 43)
theorem WrB.lt {J:IH} {w:World} {B:Nat} {d:Drf} {ve vk vt vh:Value} (h:WrB J w B d ve vk vt vh):B<w.heap.size:=(Array.getElem?_eq_some_iff.1 h.row).1
theorem WrB.below {J:IH} {w w':World} {B:Nat} {d:Drf} {ve vk vt vh:Value} (h:WrB J w B d ve vk vt vh) (hb:Below w.heap.size w w'):WrB J w' B d ve vk vt vh:=
 ⟨h.ok.below (Qn _) hb,h.no,h.rd,(hb.block _ h.lt).trans h.row⟩
end Go.Proofs.YtmdfjnhfhidmhaaGreatDoor
