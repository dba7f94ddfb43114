/- Lemmas for the claim's theorem;conditions: as each says. -/
import Derived.Test.YtmdfjnhfhidmhaaGreatDoorQ38
set_option linter.all false
namespace Go.Proofs.YtmdfjnhfhidmhaaGreatDoor
open Go.RowKit
theorem tT.ext{J J':IH}{w w':World}{B:Nat}{d:fP}{ve vk vt vh:Value}(h:tT J w B d ve vk vt vh)(hb:Below w.heap.size w w')(hx:Ext w.heap.size J J')(iU:Ok J' w'):tT J' w' B d ve vk vt vh:=
 ⟨iU,(hx _ h.lt).trans h.no,h.rd.mono (fun b c hc=>hx.keep h.ok (Qn _) b c hc),(hb.block _ h.lt).trans h.row⟩
abbrev wqL(d dn:fP)(ve vk vt vh:Value)(b off n lc k:Nat)(c:gy)(va:Value)(rn:Int)(x:((Option Addr×Nat)×(Option Addr×Nat)×(Option Addr×Nat)×(Option Addr×Nat))×Nat):List (Option Tmp×Value):=
 [(some 33,kD d ve vk vt vh),(some 34,.slice (some ⟨b,off,none⟩) n lc),(some 35,.int .i64 (k:Int)),(some 36,.pointer (some ⟨b,off+k*5,none⟩)),(some 37,FM c va),(some 38,.tuple #[kD dn (.slice x.1.1.1 dn.aB.length x.1.1.2) (.slice x.1.2.1.1 dn.bL.aM.length x.1.2.1.2) (.slice x.1.2.2.1.1 dn.aK.length x.1.2.2.1.2) (.slice x.1.2.2.2.1 dn.aC.length x.1.2.2.2.2),.int .i64 rn]),(some 32,.tuple #[kD dn (.slice x.1.1.1 dn.aB.length x.1.1.2) (.slice x.1.2.1.1 dn.bL.aM.length x.1.2.1.2) (.slice x.1.2.2.1.1 dn.aK.length x.1.2.2.1.2) (.slice x.1.2.2.2.1 dn.aC.length x.1.2.2.2.2),.int .i64 rn]),(some 39,kD dn (.slice x.1.1.1 dn.aB.length x.1.1.2) (.slice x.1.2.1.1 dn.bL.aM.length x.1.2.1.2) (.slice x.1.2.2.1.1 dn.aK.length x.1.2.2.1.2) (.slice x.1.2.2.2.1 dn.aC.length x.1.2.2.2.2)),(some 40,.int .i64 rn),(some 12,.pointer (some ⟨x.2,0,none⟩)),(none,undef),(some 13,.int .i64 rn)]
abbrev wsL(ai dt sp:Int)(so:Option Addr)(sc:Nat)(L L2:List bu)(d:fP)(ve vk vt vh:Value)(x:(Option Addr×Nat)×(Option Addr×Nat)×Nat):List (Option Tmp×Value):=
 [(some 48,ed ai dt sp (.slice so L.length sc)),(some 49,kD d ve vk vt vh),(some 50,uG (dI d) (.slice x.1.1 (dI d).aB.length x.1.2)),(some 51,.tuple #[ed ai dt sp (.slice x.2.1.1 L2.length x.2.1.2),.int .i64 0]),(some 47,.tuple #[ed ai dt sp (.slice x.2.1.1 L2.length x.2.1.2),.int .i64 0]),(some 52,ed ai dt sp (.slice x.2.1.1 L2.length x.2.1.2)),(some 53,.int .i64 0),(some 14,.pointer (some ⟨x.2.2,0,none⟩)),(none,undef),(some 15,.int .i64 0)]
