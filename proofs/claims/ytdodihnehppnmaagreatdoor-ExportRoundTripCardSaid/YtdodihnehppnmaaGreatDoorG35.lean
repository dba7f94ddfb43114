/- Lemmas for the claim's theorem;conditions: as each says. -/
import Derived.Test.YtdodihnehppnmaaGreatDoorG22
set_option linter.all false
namespace Go.Proofs.YtdodihnehppnmaaGreatDoor
open Go.RowKit
abbrev faL(E:Value)(g:Nat)(c:ae)(z k:Int)(bk:Bool)(x:Unit):List (Option Tmp×Value):=
 [(some 69,E),(some 70,.int .i64 z),(some 71,.bool false),(some 72,.bool false),(some 73,undef),(some 74,undef),(some 75,undef),(some 76,undef),(some 77,undef),(some 78,undef),(some 79,undef),(some 80,undef),(some 81,undef),(some 82,undef),(some 83,undef),(some 84,undef),(some 85,undef),(some 86,.bool false),(none,undef),(some 5,.bool false)]
abbrev fbL(E:Value)(g:Nat)(c:ae)(z k:Int)(bk:Bool)(x:Unit):List (Option Tmp×Value):=
 [(some 69,E),(some 70,.int .i64 z),(some 71,.bool true),(some 72,.bool true),(some 73,.pointer (some ⟨g,0,none⟩)),(some 74,.int .i64 k),(some 75,.bool true),(some 76,.bool true),(some 77,undef),(some 78,undef),(some 79,undef),(some 80,.bool true),(some 81,.bool true),(some 82,undef),(some 83,undef),(some 84,undef),(some 85,.bool true),(some 86,.bool true),(none,undef),(some 5,.bool true)]
abbrev fcL(E:Value)(g:Nat)(c:ae)(z k:Int)(bk:Bool)(x:Unit):List (Option Tmp×Value):=
 [(some 69,E),(some 70,.int .i64 z),(some 71,.bool true),(some 72,.bool true),(some 73,.pointer (some ⟨g,0,none⟩)),(some 74,.int .i64 k),(some 75,.bool false),(some 76,.bool false),(some 77,.pointer (some ⟨g,0,none⟩)),(some 78,.int .i64 k),(some 79,.bool true),(some 80,.bool true),(some 81,.bool true),(some 82,undef),(some 83,undef),(some 84,undef),(some 85,.bool true),(some 86,.bool true),(none,undef),(some 5,.bool true)]
abbrev fdL(E:Value)(g:Nat)(c:ae)(z k:Int)(bk:Bool)(x:Unit):List (Option Tmp×Value):=
 [(some 69,E),(some 70,.int .i64 z),(some 71,.bool true),(some 72,.bool true),(some 73,.pointer (some ⟨g,0,none⟩)),(some 74,.int .i64 k),(some 75,.bool false),(some 76,.bool false),(some 77,.pointer (some ⟨g,0,none⟩)),(some 78,.int .i64 k),(some 79,.bool false),(some 80,.bool false),(some 81,.bool false),(some 82,.pointer (some ⟨g,0,none⟩)),(some 83,.int .i64 k),(some 84,.bool bk),(some 85,.bool bk),(some 86,.bool bk),(none,undef),(some 5,.bool bk)]
def aod(r:Rd ay):ay×Bool:=match r with| .ok p=>(p.1,p.1.ag==1 || p.1.ag==2 || p.1.ag==3)| .error _=>(zE,false)
def aoe(h c:ae):ae:=if mX h=true then nD 1 h c else nU h
