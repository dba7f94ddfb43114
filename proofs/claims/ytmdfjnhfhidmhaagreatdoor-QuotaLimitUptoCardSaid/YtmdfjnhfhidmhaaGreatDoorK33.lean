/-
  Walks and laws that the claim's theorem uses: texts SnM, joined; comments out. Conditions: as each theorem says.
-/
import Derived.Test.YtmdfjnhfhidmhaaGreatDoorK30
import Derived.Test.YtmdfjnhfhidmhaaGreatDoorK32
set_option linter.all false
namespace Go.Proofs.YtmdfjnhfhidmhaaGreatDoor
open Go.RowKit
def RcM (I:IH) (w:World) (d:Drf) (ve vk vt vh:Value) (c:Chg) (va:Value) (n6 n7:Nat) (wx:World):Prop:=
 ∃e q a1 k1 a2 k2 a3 k3 J,recP d.sto c=(e,q)∧AdM I w d ve vk vt vh c va e (.slice a1 e.attrs.length k1) (.slice a2 e.exts.length k2) q (.slice a3 q.cks.length k3) n6 n7 J wx
abbrev raL (n:Nat) (kind:Int) (path:Bytes) (ao:Option Addr) (le cp:Nat) (target:Bytes) (x:Nat × (Option Addr × Nat) × Nat):List (Option Tmp × Value):=
 [(some 16,.pointer (some ⟨n+1,0,none⟩)),(some 17,.int .i64 kind),(some 18,.pointer (some ⟨n+1,1,none⟩)),(some 19,S path),(some 20,.slice (some ⟨x.1,0,none⟩) 0 0),(some 21,.pointer (some ⟨n+1,2,none⟩)),(some 22,.slice ao le cp),(some 23,.slice x.2.1.1 le x.2.1.2),(some 24,.pointer (some ⟨n+1,3,none⟩)),(some 25,S target),(some 26,.agg #[.int .i64 kind,S path,.slice x.2.1.1 le x.2.1.2,S target,.int .i64 0,.string ⟨#[]⟩,.slice none 0 0]),(some 6,.pointer (some ⟨x.2.2,0,none⟩)),(none,undef)]
abbrev rbL (n le le1 cp:Nat) (ao:Option Addr) (e:Ent) (xa xx:Value) (x:Nat × (Option Addr × Nat) × Nat × (Option Addr × Nat)):List (Option Tmp × Value):=
 [(some 129,.slice (some ⟨x.1,0,none⟩) 0 0),(some 130,.pointer (some ⟨n,3,none⟩)),(some 131,.slice ao le cp),(some 132,.slice x.2.1.1 le x.2.1.2),(some 133,entV e xa xx),(some 134,.slice (some ⟨x.2.2.1,0,none⟩) 1 1),(some 135,.slice x.2.2.2.1 le1 x.2.2.2.2),(some 136,.pointer (some ⟨n,3,none⟩)),(none,undef)]
end Go.Proofs.YtmdfjnhfhidmhaaGreatDoor
