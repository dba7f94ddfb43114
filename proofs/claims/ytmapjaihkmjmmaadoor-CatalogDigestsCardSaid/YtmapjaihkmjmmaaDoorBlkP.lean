/-
  Plain data and steps of layer 4 (blake2s), and the two tables that the program builds.
-/
import Derived.Test.YtmapjaihkmjmmaaDoorBlkB
import Derived.Laws.ResultCell
import Derived.Deep.WholeRow
import Derived.Laws.CopyOwn
namespace Go.Proofs.YtmapjaihkmjmmaaDoor
open Go.RowKit

def blkPerms : List Int := [81985529216486895, 16881918945140062035, 13312731748010193300, 8733003861693448440, 10400822202260547645, 3200383143768358425, 14204332651957162635, 15816291393287259690, 8064173457993569445, 11710614767857974480]
def blkQuads : List (Nat × Nat × Nat × Nat) := [(0, 4, 8, 12), (1, 5, 9, 13), (2, 6, 10, 14), (3, 7, 11, 15), (0, 5, 10, 15), (1, 6, 11, 12), (2, 7, 8, 13), (3, 4, 9, 14)]
def blkSigma : List (List Nat) := [[0, 1, 2, 3, 4, 5, 6, 7, 8, 9, 10, 11, 12, 13, 14, 15], [14, 10, 4, 8, 9, 15, 13, 6, 1, 12, 0, 2, 11, 7, 5, 3], [11, 8, 12, 0, 5, 2, 15, 13, 10, 14, 3, 6, 7, 1, 9, 4], [7, 9, 3, 1, 13, 12, 11, 14, 2, 6, 5, 10, 4, 0, 15, 8], [9, 0, 5, 7, 2, 4, 10, 15, 14, 1, 11, 12, 6, 8, 3, 13], [2, 12, 6, 10, 0, 11, 8, 3, 4, 13, 7, 5, 15, 14, 1, 9], [12, 5, 1, 15, 14, 13, 4, 10, 0, 7, 6, 3, 9, 2, 8, 11], [13, 11, 7, 14, 12, 1, 3, 9, 5, 0, 15, 4, 8, 6, 2, 10], [6, 15, 14, 9, 11, 3, 0, 8, 12, 2, 13, 7, 1, 4, 10, 5], [10, 2, 8, 4, 7, 6, 1, 5, 15, 11, 9, 14, 3, 12, 13, 0]]
def quad (k : Nat) : Nat × Nat × Nat × Nat := blkQuads.getD k (0, 0, 0, 0)
def sigma (r i : Nat) : Nat := (blkSigma.getD r []).getD i 0
def permAt (r : Nat) : Int := blkPerms.getD r 0

/-- One step: mixing k of round r. -/
def stepP (m : List Int) (r k : Nat) (v : List Int) : List Int := mixP v (quad k).1 (quad k).2.1 (quad k).2.2.1 (quad k).2.2.2 (m.getD (sigma r (2 * k)) 0) (m.getD (sigma r (2 * k + 1)) 0)
def stepsP (m : List Int) (r : Nat) : Nat → List Int → List Int
  | 0, v => v
  | k + 1, v => stepP m r k (stepsP m r k v)
def roundsP (m : List Int) : Nat → List Int → List Int
  | 0, v => v
  | r + 1, v => stepsP m r 8 (roundsP m r v)
theorem stepP_length (m : List Int) (r k : Nat) (v : List Int) : (stepP m r k v).length = v.length := mixP_length ..
theorem stepsP_length (m : List Int) (r : Nat) : ∀ (k : Nat) (v : List Int), (stepsP m r k v).length = v.length
  | 0, _ => rfl
  | k + 1, v => by rw [stepsP, stepP_length, stepsP_length m r k v]
theorem roundsP_length (m : List Int) : ∀ (r : Nat) (v : List Int), (roundsP m r v).length = v.length
  | 0, _ => rfl
  | r + 1, v => by rw [roundsP, stepsP_length, roundsP_length m r v]

theorem quad_ok (k : Nat) (hk : k < 8) : (quad k).1 < 16 ∧ (quad k).2.1 < 16 ∧ (quad k).2.2.1 < 16 ∧ (quad k).2.2.2 < 16 ∧ (quad k).1 ≠ (quad k).2.1 ∧ (quad k).1 ≠ (quad k).2.2.1 ∧ (quad k).1 ≠ (quad k).2.2.2 ∧ (quad k).2.1 ≠ (quad k).2.2.1 ∧ (quad k).2.1 ≠ (quad k).2.2.2 ∧ (quad k).2.2.1 ≠ (quad k).2.2.2 := by
  revert k; decide
theorem sigma_ok (r i : Nat) (hr : r < 10) (hi : i < 16) : sigma r i < 16 := by
  revert i; revert r; decide
theorem nibble_ok (r k : Nat) (hr : r < 10) (hk : k < 8) : bits .and .u64 (permAt r / 2 ^ (60 - 8 * k)) 15 = (sigma r (2 * k) : Nat) ∧ bits .and .u64 (permAt r / 2 ^ (56 - 8 * k)) 15 = (sigma r (2 * k + 1) : Nat) := by
  revert k; revert r; decide

def permRow : Array Value := (blkPerms.map fun x => Value.int .u64 x).toArray
def quadV (q : Nat × Nat × Nat × Nat) : Value := .agg #[.int .i64 q.1, .int .i64 q.2.1, .int .i64 q.2.2.1, .int .i64 q.2.2.2]
def quadRow : Array Value := #[.int .i64 0, .int .i64 4, .int .i64 8, .int .i64 12, .int .i64 1, .int .i64 5, .int .i64 9, .int .i64 13, .int .i64 2, .int .i64 6, .int .i64 10, .int .i64 14, .int .i64 3, .int .i64 7, .int .i64 11, .int .i64 15, .int .i64 0, .int .i64 5, .int .i64 10, .int .i64 15, .int .i64 1, .int .i64 6, .int .i64 11, .int .i64 12, .int .i64 2, .int .i64 7, .int .i64 8, .int .i64 13, .int .i64 3, .int .i64 4, .int .i64 9, .int .i64 14]
def quadZero : Array Value := #[.int .i64 0, .int .i64 0, .int .i64 0, .int .i64 0, .int .i64 0, .int .i64 0, .int .i64 0, .int .i64 0, .int .i64 0, .int .i64 0, .int .i64 0, .int .i64 0, .int .i64 0, .int .i64 0, .int .i64 0, .int .i64 0, .int .i64 0, .int .i64 0, .int .i64 0, .int .i64 0, .int .i64 0, .int .i64 0, .int .i64 0, .int .i64 0, .int .i64 0, .int .i64 0, .int .i64 0, .int .i64 0, .int .i64 0, .int .i64 0, .int .i64 0, .int .i64 0]
theorem quadRow_at (k : Nat) (hk : k < 8) : Value.agg (quadRow.extract (k * 4) (k * 4 + 4)) = quadV (quad k) := by
  match k, hk with
  | 0, _ => rfl
  | 1, _ => rfl
  | 2, _ => rfl
  | 3, _ => rfl
  | 4, _ => rfl
  | 5, _ => rfl
  | 6, _ => rfl
  | 7, _ => rfl
theorem permRow_at (r : Nat) (hr : r < 10) : permRow[r]? = some (.int .u64 (permAt r)) := by
  have h : r < blkPerms.length := hr
  simp [permRow, permAt, List.getD, List.getElem?_eq_getElem h]

/-- An element of an array by value. -/
theorem run_index_one {P : Program} {t e : TypeId} {n : Nat} {cs : Array Value} {v : Value} {d : TypeDesc} (h : P.underlying t = some (.array n e)) (he : P.underlying e = some d) (hd : (match d with | .struct _ | .array _ _ => true | _ => false) = false) (hz : (P.info? e).map (·.size) = some 1)
    (i : Nat) (hi : i < n) (hv : cs[i]? = some v) (W : World) : (Instr.index t (.agg cs) (.int .i64 (i : Int))).run P W = .ok v W := by
  cases hq : P.info? e with
  | none => simp [hq] at hz
  | some x =>
    have hs : x.size = 1 := by simpa [hq] using hz
    have hagg : (isAgg e).run P W = .ok false W := by
      unfold isAgg
      rw [Sem.run_bind, run_underlying he W]
      cases d <;> simp_all
    simp [Instr.index, run_underlying h, asIntOf, hi, go_sem, sizeOf, typeInfo, hq, hs, hagg, hv]
theorem run_index_agg {P : Program} {t e : TypeId} {n m : Nat} {cs : Array Value} {d : TypeDesc} (h : P.underlying t = some (.array n e)) (he : P.underlying e = some d) (hd : (match d with | .struct _ | .array _ _ => true | _ => false) = true) (hz : (P.info? e).map (·.size) = some m)
    (i : Nat) (hi : i < n) (W : World) : (Instr.index t (.agg cs) (.int .i64 (i : Int))).run P W = .ok (.agg (cs.extract (i * m) (i * m + m))) W := by
  cases hq : P.info? e with
  | none => simp [hq] at hz
  | some x =>
    have hs : x.size = m := by simpa [hq] using hz
    have hagg : (isAgg e).run P W = .ok true W := by
      unfold isAgg
      rw [Sem.run_bind, run_underlying he W]
      cases d <;> simp_all
    simp [Instr.index, run_underlying h, asIntOf, hi, go_sem, sizeOf, typeInfo, hq, hs, hagg]

set_option maxRecDepth 100000 in
theorem blk_permutations (w : World) : Calls Tryd.prog 55 #[] w fun e w' => e = .returned (.agg permRow) ∧ Below w.heap.size w w' := by
  go_enter Tryd.func55, Tryd.ntmps55
  go_wp2
  refine bodyPost_ret (results_cell_row rfl _ _ w.heap.size _ permRow (0, 0) _ rfl (heap_alloc_new w (.cells permRow 87)) Tryd.underlying87 rfl (by kernel_rfl)) rfl ⟨rfl, ?_⟩
  exact (Below.refl _ _).alloc (Nat.le_refl _) _

set_option maxRecDepth 100000 in
theorem blk_quads (w : World) : Calls Tryd.prog 56 #[] w fun e w' => e = .returned (.agg quadRow) ∧ Below w.heap.size w w' := by
  have hz := heap_alloc_new w (.cells quadZero 90)
  go_enter Tryd.func56, Tryd.ntmps56
  go_wp2_with (refine wpList_store_row rfl 90 _ _ rfl w.heap.size quadRow rfl rfl 90 quadZero hz (by kernel_rfl) rfl (by kernel_rfl) ?_)
  refine bodyPost_ret (results_cell_row rfl _ _ w.heap.size _ quadRow (0, 0) _ rfl (setRow_heap _ _ _ _ _ _ hz) Tryd.underlying90 rfl (by kernel_rfl)) rfl ⟨rfl, ?_⟩
  exact below_setRow ((Below.refl _ _).alloc (Nat.le_refl _) _) (Nat.le_refl _) _
end Go.Proofs.YtmapjaihkmjmmaaDoor
