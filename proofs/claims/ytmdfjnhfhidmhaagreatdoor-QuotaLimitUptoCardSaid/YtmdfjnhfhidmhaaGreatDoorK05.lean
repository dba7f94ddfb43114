/-
  Walks and laws that the claim's theorem uses: texts EnD, joined; comments out. Conditions: as each theorem says.
-/
import Derived.Test.YtmdfjnhfhidmhaaGreatDoorK04
import Derived.Deep.DeepCutAuto
set_option linter.all false
namespace Go.Proofs.YtmdfjnhfhidmhaaGreatDoor
open Go.RowKit
theorem Xdr {l:Bytes} (h:l≠ []):(l== [])=false∧l.isEmpty=false∧(!l.isEmpty)=true∧(l != [])=true:=by
 cases l with
 |nil=>exact absurd rfl h
 |cons a l=>exact ⟨rfl,rfl,rfl,rfl⟩
theorem Xdx {l:Bytes} (h:l= []):(l== [])=true∧l.isEmpty=true∧(!l.isEmpty)=false∧(l != [])=false:=by
 subst h;exact ⟨rfl,rfl,rfl,rfl⟩
theorem Xc8 (x:Xt) (l:List Xt):xtsErr true (x::l)=if xtBad x then 2 else xtsErr true l:=rfl
end Go.Proofs.YtmdfjnhfhidmhaaGreatDoor
