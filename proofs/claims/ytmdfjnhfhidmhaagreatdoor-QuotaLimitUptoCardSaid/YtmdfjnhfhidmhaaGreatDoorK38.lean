/-
  Walks and laws that the claim's theorem uses: texts SoB, joined; comments out. Conditions: as each theorem says.
-/
import Derived.Test.YtmdfjnhfhidmhaaGreatDoorK37
set_option linter.all false
namespace Go.Proofs.YtmdfjnhfhidmhaaGreatDoor
open Go.RowKit
def RetWr (I:IH) (w:World) (ai dt sp:Int) (p:List Ses × Nat × Int) (e:Ending) (w':World):Prop:=
 ∃vs J,e= .returned (.tuple #[arcV ai dt sp vs,.int .i64 p.2.1,.int .i64 p.2.2])∧Below w.heap.size w w'∧Ext w.heap.size I J∧Ok J w'∧RdS tSes J vs p.1
theorem Xpp {L:List Ses} {date:Int} (h:begErr L date=0):begP L date=(openP L date,0):=by unfold begP;rw [if_neg (by rw [h];simp)]
theorem Xrs {L:List Ses} {date:Int} (h:begErr L date≠0):begP L date=(nilD,begErr L date):=by unfold begP;rw [if_pos h]
abbrev wrL (B:Nat) (ai dt sp:Int) (so:Option Addr) (sc:Nat) (L L2:List Ses) (d:Drf) (ve vk vt vh:Value) (x:(Option Addr × Nat) × (Option Addr × Nat) × Nat):List (Option Tmp × Value):=
 [(some 49,arcV ai dt sp (.slice so L.length sc)),(some 50,.func (.func 100) #[] #[.pointer (some ⟨B,0,none⟩)]),(some 51,drV d ve vk vt vh),(some 52,sesV (closeP d) (.slice x.1.1 (closeP d).ents.length x.1.2)),(some 53,.tuple #[arcV ai dt sp (.slice x.2.1.1 L2.length x.2.1.2),.int .i64 0]),(some 48,.tuple #[arcV ai dt sp (.slice x.2.1.1 L2.length x.2.1.2),.int .i64 0]),(some 54,arcV ai dt sp (.slice x.2.1.1 L2.length x.2.1.2)),(some 55,.int .i64 0),(some 16,.pointer (some ⟨x.2.2,0,none⟩)),(none,undef),(some 10,.int .i64 0)]
end Go.Proofs.YtmdfjnhfhidmhaaGreatDoor
