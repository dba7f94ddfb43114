/- Lemmas for the claim's theorem;conditions: as each says. -/
import Derived.Test.YtmdfjnhfhidmhaaGreatDoorJ37
set_option linter.all false
namespace Go.Proofs.YtmdfjnhfhidmhaaGreatDoor
open Go.RowKit
variable{L:List dK}{aG:Int}
def ag8(I:IH)(w:World)(ai dt sp:Int)(p:List dK×Nat×Int)(e:Ending)(w':World):Prop:=
 ∃vs J,e= .returned (.tuple #[qH ai dt sp vs,.int .i64 p.2.1,.int .i64 p.2.2])∧Below w.heap.size w w'∧Ext w.heap.size I J∧Ok J w'∧aZ AJ J vs p.1
theorem Xs0(h:gY L aG=0):vz L aG=(jT L aG,0):=by unfold vz;rw[if_neg (by rw[h];simp)]
theorem Xu0(h:gY L aG≠0):vz L aG=(zh,gY L aG):=by unfold vz;rw[if_pos h]
abbrev wrL(B:Nat)(ai dt sp:Int)(so:Option Addr)(sc:Nat)(L L2:List dK)(d:ig)(ve vk vt vh:Value)(x:(Option Addr×Nat)×(Option Addr×Nat)×Nat):List (Option Tmp×Value):=
 [(some 49,qH ai dt sp (.slice so L.length sc)),(some 50,.func (.func 100) #[] #[.pointer (some ⟨B,0,none⟩)]),(some 51,gU d ve vk vt vh),(some 52,Dj (vw d) (.slice x.1.1 (vw d).aB.length x.1.2)),(some 53,.tuple #[qH ai dt sp (.slice x.2.1.1 L2.length x.2.1.2),.int .i64 0]),(some 48,.tuple #[qH ai dt sp (.slice x.2.1.1 L2.length x.2.1.2),.int .i64 0]),(some 54,qH ai dt sp (.slice x.2.1.1 L2.length x.2.1.2)),(some 55,.int .i64 0),(some 16,.pointer (some ⟨x.2.2,0,none⟩)),(none,undef),(some 10,.int .i64 0)]
