/-
  Walks and laws that the claim's theorem uses: texts StD, joined; comments out. Conditions: as each theorem says.
-/
import Derived.Test.YtdodihnehppnmaaGreatDoorCI31
import Derived.Test.YtdodihnehppnmaaGreatDoorCI38
set_option linter.all false
namespace Go.Proofs.YtdodihnehppnmaaGreatDoor
open Go.RowKit
def PD (l:List Ses) (k:Nat) (p:Bytes) (d:Int):Prop:=
 (k=0∧p= []∧d=0)∨ ∃(m:Nat) (h:m<l.length) (y:Ses),k=m+1∧l[m]=y∧p=(dirDig y).1∧d=y.date∧(dirDig y).2=0
end Go.Proofs.YtdodihnehppnmaaGreatDoor
