/- Lemmas for the claim's theorem;conditions: as each says. -/
import Derived.Test.YtmdfjnhfhidmhaaGreatDoorJ36
set_option linter.all false
namespace Go.Proofs.YtmdfjnhfhidmhaaGreatDoor
open Go.RowKit
variable{J:IH}{w:World}{B:Nat}{d:ig}{ve vk vt vh:Value}
abbrev ag5:Array Value:=#[.int .i64 0,.int .i64 0,.string ⟨#[]⟩,.slice none 0 0,.string ⟨#[]⟩,.string ⟨#[]⟩]
abbrev Tm:Array Value:=#[.int .u32 0,.int .i64 0,.int .i64 0,.slice none 0 0]
def ag6(I:IH)(w:World)(s:dK)(e:Ending)(w':World):Prop:=
 ∃ve J,e= .returned (Dj s ve)∧Below w.heap.size w w'∧Ext w.heap.size I J∧Ok J w'∧aZ bQ J ve s.aB
def ag7(I:IH)(w:World)(ai dt sp:Int)(L:List dK)(n:Int)(e:Ending)(w':World):Prop:=
 ∃vs J,e= .returned (.tuple #[qH ai dt sp vs,.int .i64 n])∧Below w.heap.size w w'∧Ext w.heap.size I J∧Ok J w'∧aZ AJ J vs L
abbrev clL(n:Nat)(num aG:Int)(bR:af)(eo:Option Addr)(le ec:Nat)(str:af)(x:Option Addr×Nat):List (Option Tmp×Value):=
 [(some 3,.pointer (some ⟨n,0,none⟩)),(some 4,.int .i64 num),(some 5,.pointer (some ⟨n,1,none⟩)),(some 6,.int .i64 aG),(some 7,.pointer (some ⟨n,2,none⟩)),(some 8,S bR),(some 9,.pointer (some ⟨n,3,none⟩)),(some 10,.slice eo le ec),(some 11,.slice x.1 le x.2),(some 12,.pointer (some ⟨n,4,none⟩)),(some 13,.pointer (some ⟨n,6,none⟩)),(some 14,S str),(some 15,.agg #[.int .i64 num,.int .i64 aG,S bR,.slice x.1 le x.2,S str,.string ⟨#[]⟩]),(none,undef)]
abbrev aqL(n le FL cp:Nat)(ao:Option Addr)(s:dK)(ve:Value)(x:Nat×(Option Addr×Nat)×Nat×(Option Addr×Nat)):List (Option Tmp×Value):=
 [(some 41,.slice (some ⟨x.1,0,none⟩) 0 0),(some 42,.pointer (some ⟨n,3,none⟩)),(some 43,.slice ao le cp),(some 44,.slice x.2.1.1 le x.2.1.2),(some 45,Dj s ve),(some 46,.slice (some ⟨x.2.2.1,0,none⟩) 1 1),(some 47,.slice x.2.2.2.1 FL x.2.2.2.2),(some 48,.pointer (some ⟨n,3,none⟩)),(none,undef)]
structure ApM (I:IH) (w0:World) (ai dt sp:Int) (vs:Value) (s:dK) (ve:Value) (W:World):Prop where
 at_:mH I w0 I W
 row:W.heap[w0.heap.size]?=some (.cells #[.int .u32 ai,.int .i64 dt,.int .i64 sp,vs] 63 (0,0))
 aV:mD W (w0.heap.size+1) s ve
 O:W.heap[w0.heap.size+2]?=some (.cells Tm 63 (0,0))
abbrev apL(n m le FL cp:Nat)(ao:Option Addr)(s:dK)(ve:Value)(x:(Option Addr×Nat)×Nat×(Option Addr×Nat)):List (Option Tmp×Value):=
 [(some 43,.pointer (some ⟨n,3,none⟩)),(some 44,.slice ao le cp),(some 45,.slice x.1.1 le x.1.2),(some 46,Dj s ve),(some 47,.slice (some ⟨x.2.1,0,none⟩) 1 1),(some 48,.slice x.2.2.1 FL x.2.2.2),(some 49,.pointer (some ⟨m,3,none⟩)),(none,undef)]
structure xg (J:IH) (w:World) (B:Nat) (d:ig) (ve vk vt vh:Value):Prop where
 ok:Ok J w
 no:J B=none
 rd:l5 J d ve vk vt vh
 row:w.heap[B]?=some (.cells #[.int .i64 d.num,.int .i64 d.aG,S d.bR,ve,vk,.int .i64 d.aU.aV,S d.aU.str,vt,vh] 43)
theorem xg.lt(h:xg J w B d ve vk vt vh):B<w.heap.size:=(Qg h.row)
theorem xg.below{w':World}(h:xg J w B d ve vk vt vh)(hb:Below w.heap.size w w'):xg J w' B d ve vk vt vh:=
 ⟨h.ok.below (Qn _) hb,h.no,h.rd,(hb.block _ h.lt).trans h.row⟩
