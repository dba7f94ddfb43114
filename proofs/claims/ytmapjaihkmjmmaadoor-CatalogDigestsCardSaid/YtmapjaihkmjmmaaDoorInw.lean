/-
  A region that draws its order and makes memory: each operation is run once, whatever came before it; what a block's address is stands in a hidden choice. Over any program.
-/
import Derived.Test.YtmapjaihkmjmmaaDoorInv
namespace Go.Proofs.YtmapjaihkmjmmaaDoor
open Go.RowKit

section
variable {P : Program} {ops : Array Oper} {Q : Exit → Act → World → Prop}

/-- Each operation waits for earlier ones alone. -/
def backB (ops : Array Oper) : Bool := (List.range ops.size).all fun i => ((ops[i]?).map fun o => o.after.all fun e => decide (e.on < i)).getD true

theorem all_up {md : Region.Mode} {s : Array Bool} (hb : backB ops = true) (hr : Region.ready md ops s = []) (hsz : s.size = ops.size) : ∀ i, i < ops.size → s.getD i false = true := by
  intro i
  induction i using Nat.strongRecOn with
  | _ i ih =>
    intro hi
    cases hs : s.getD i false with
    | true => rfl
    | false =>
      exfalso
      have hs' : s.getD i true = false := by
        rw [Array.getD_eq_getD_getElem?] at hs ⊢
        have hlt : i < s.size := by omega
        rw [Array.getElem?_eq_getElem hlt] at hs ⊢
        simpa using hs
      have : i ∈ Region.ready md ops s := mem_ready.2 ⟨hs', ops[i], Array.getElem?_eq_getElem hi, fun e he _ => ?_⟩
      · rw [hr] at this; exact absurd this (by simp)
      · have h := List.all_eq_true.1 hb i (List.mem_range.2 hi)
        rw [Array.getElem?_eq_getElem hi] at h
        simp only [Option.map_some, Option.getD_some] at h
        obtain ⟨j, hj, rfl⟩ := Array.getElem_of_mem he
        have h2 := (by simpa using h : ∀ (j : Nat) (_ : j < ops[i].after.size), ops[i].after[j].on < i) j hj
        exact ih _ h2 (by omega)

theorem wp_region_fill {X : Type} {id : Nat} {a : Act} {w : World} (L : X → List (Option Tmp × Value)) (C : X → Array Bool → World → Prop) (hm : P.follows .mixedOrders = true) (hb : backB ops = true) (h0 : ∃ x, C x (Array.replicate ops.size false) { w with drawn := w.drawn + 1 })
    (hstep : ∀ x s a' w' i, s.size = ops.size → a' = fillA (L x) 0 s a → C x s w' → i ∈ Region.ready .any ops s → wpOp P ops Q i (fun a'' w'' => ∃ y, a'' = fillA (L y) 0 (s.setIfInBounds i true) a ∧ C y (s.setIfInBounds i true) w'') a' w')
    (hend : ∀ x s a' w', (∀ i, i < ops.size → s.getD i false = true) → a' = fillA (L x) 0 s a → C x s w' → Q .normal a' w') : (Code.region id ops true).wp P Q a w := by
  refine wp_region_inv (fun s a' w' => s.size = ops.size ∧ ∃ x, a' = fillA (L x) 0 s a ∧ C x s w') hm ?_ ?_ ?_
  · obtain ⟨x, hx⟩ := h0
    exact ⟨by simp, x, (fill_none _ _ _ _).symm, hx⟩
  · rintro s a' w' i ⟨hsz, x, ha, hx⟩ hi
    exact wpOp_mono (fun a'' w'' ⟨y, h1, h2⟩ => ⟨by simpa using hsz, y, h1, h2⟩) (hstep x s a' w' i hsz ha hx hi)
  · rintro s a' w' ⟨hsz, x, ha, hx⟩ hr
    exact hend x s a' w' (all_up hb hr hsz) ha hx

/-- All have come up. -/
def fillAll : List (Option Tmp × Value) → Act → Act
  | [], a => a
  | (d, v) :: l, a => fillAll l (a.put d v)
theorem fill_all : ∀ (l : List (Option Tmp × Value)) (k : Nat) (s : Array Bool) (a : Act), (∀ i, i < l.length → s.getD (k + i) false = true) → fillA l k s a = fillAll l a
  | [], _, _, _, _ => rfl
  | (d, v) :: l, k, s, a, h => by
    have h0 := h 0 (by simp)
    rw [Nat.add_zero] at h0
    rw [fillA, h0, if_pos rfl, fillAll]
    exact fill_all l (k + 1) s _ fun i hi => by
      have := h (i + 1) (by simp; omega)
      rw [← this]; congr 1; omega
end
end Go.Proofs.YtmapjaihkmjmmaaDoor
