/-
  What a call hands back: a list, a list with an error. Plain.
-/
import Derived.Test.YtcbmdghnlbieeaaGreatDoorOwn
namespace Go.Proofs.YtcbmdghnlbieeaaGreatDoor
open Go.RowKit

/-- A result list. -/
def RetS {α : Type} (T : Ty α) (I : IH) (w : World) (l : List α) (e : Ending) (w' : World) : Prop :=
  ∃ v' I', e = .returned v' ∧ Below w.heap.size w w' ∧ Ext w.heap.size I I' ∧ Ok I' w' ∧ RdS T I' v' l
/-- A result list and an error. -/
def RetL {α : Type} (T : Ty α) (I : IH) (w : World) (l : List α) (n : Int) (e : Ending) (w' : World) : Prop :=
  ∃ v' I', e = .returned (.tuple #[v', .int .i64 n]) ∧ Below w.heap.size w w' ∧ Ext w.heap.size I I' ∧ Ok I' w' ∧ RdS T I' v' l
end Go.Proofs.YtcbmdghnlbieeaaGreatDoor
