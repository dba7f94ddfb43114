/- Lemmas for the claim's theorem;conditions: as each says. -/
import Derived.Test.YtmdfjnhfhidmhaaGreatDoorQ02
import Derived.Deep.DeepCutAuto
set_option linter.all false
namespace Go.Proofs.YtmdfjnhfhidmhaaGreatDoor
open Go.RowKit
theorem Bo{l:af}(h:l≠[]):(l==[])=false∧l.isEmpty=false∧(!l.isEmpty)=true∧(l !=[])=true:=by
 cases l with
 |nil=>exact absurd rfl h
 |cons a l=>exact⟨rfl,rfl,rfl,rfl⟩
theorem Bp{l:af}(h:l=[]):(l==[])=true∧l.isEmpty=true∧(!l.isEmpty)=false∧(l !=[])=false:=by
 subst h;exact⟨rfl,rfl,rfl,rfl⟩
theorem PN(x:Xt)(l:List Xt):cz true (x::l)=if dE x then 2 else cz true l:=rfl
