/-
  A boxed attribute. Plain.
-/
import Derived.Test.YtcbmdghnlbieeaaGreatDoorEnt
namespace Go.Proofs.YtcbmdghnlbieeaaGreatDoor
open Go.RowKit

/-- The cells of a boxed attribute behind a call. -/
theorem atBox {W w1 : World} {n : Nat} {x : At} {T : TypeId} (hn : n = W.heap.size) (hb : Below (W.alloc (.cells #[S x.k, S x.v] T)).heap.size (W.alloc (.cells #[S x.k, S x.v] T)) w1) :
    w1.cell? ⟨n, 0, none⟩ = some (S x.k) ∧ w1.cell? ⟨n, 1, none⟩ = some (S x.v) := by
  subst hn
  refine ⟨?_, ?_⟩ <;> (rw [hb.cell (by simp)]; simp)
end Go.Proofs.YtcbmdghnlbieeaaGreatDoor
