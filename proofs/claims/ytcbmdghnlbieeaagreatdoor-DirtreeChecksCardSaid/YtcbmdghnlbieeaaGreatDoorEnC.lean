/-
  Walks of the reference's layer 36: Check.
-/
import Derived.Test.YtcbmdghnlbieeaaGreatDoorEnB
namespace Go.Proofs.YtcbmdghnlbieeaaGreatDoor
open Go.RowKit

/-- The sum of the lengths, as the reference adds them. -/
def sumW (l : List Xt) : Int := l.foldl (fun n x => wrap64 (n + x.n)) 0
theorem sumW_snoc (l : List Xt) (x : Xt) : sumW (l ++ [x]) = wrap64 (sumW l + x.n) := by simp [sumW, List.foldl_append]
/-- What the reference's Check returns. -/
def entErrR (e : Ent) : Int :=
  if e.kind < 1 ∨ 6 < e.kind then 10
  else if pathErr e.path ≠ 0 then pathErr e.path
  else if e.path = [] ∧ e.kind < 5 then 1
  else if chk e.attrs ≠ 0 then chk e.attrs
  else if (e.attrs ≠ [] ∧ 3 < e.kind) ∨ targetOk e = false then 1
  else if e.size < 0 ∨ 65536 < e.size ∨ (e.kind ≠ 1 ∧ e.size ≠ 0) then 2
  else if (e.kind = 1 ∧ e.digest.length ≠ 32) ∨ (e.kind ≠ 1 ∧ e.digest ≠ []) then 1
  else if xtsErr (e.kind == 1) e.exts ≠ 0 then xtsErr (e.kind == 1) e.exts
  else if sumW e.exts ≠ e.size then 1 else 0

theorem xtsErr_ok : ∀ (l : List Xt), xtsErr true l = 0 → ∀ x ∈ l, xtBad x = false
  | [], _, _, h => absurd h (by simp)
  | y :: l, h, x, hx => by
    rw [xtsErr, if_neg (by simp)] at h
    by_cases hb : xtBad y = true
    · rw [if_pos hb] at h; omega
    · rw [if_neg hb] at h
      rcases List.mem_cons.1 hx with rfl | hx
      · simpa using hb
      · exact xtsErr_ok l h x hx
theorem xtBad_len {x : Xt} (h : xtBad x = false) : 1 ≤ x.n ∧ x.n ≤ 65536 := by
  unfold xtBad at h
  simp only [Bool.or_eq_false_iff, decide_eq_false_iff_not] at h
  omega
theorem xtSum_snoc (l : List Xt) (x : Xt) : xtSum (l ++ [x]) = xtSum l + x.n := by simp [xtSum]
theorem xtSum_bd : ∀ (n : Nat) (l : List Xt), l.length = n → (∀ x ∈ l, xtBad x = false) → 0 ≤ xtSum l ∧ xtSum l ≤ 65536 * n := by
  intro n
  induction n with
  | zero =>
    intro l h _
    have : l = [] := List.eq_nil_of_length_eq_zero h
    subst this
    exact ⟨Int.le_refl _, by decide⟩
  | succ n ih =>
    intro l h ha
    have hne : l ≠ [] := by intro e; rw [e] at h; simp at h
    have e : l = l.dropLast ++ [l.getLast hne] := (List.dropLast_concat_getLast hne).symm
    have hl : l.dropLast.length = n := by rw [List.length_dropLast, h]; omega
    obtain ⟨i1, i2⟩ := ih _ hl fun x hx => ha x (List.dropLast_subset _ hx)
    have hc := xtBad_len (ha _ (List.getLast_mem hne))
    rw [e, xtSum_snoc]
    omega
theorem sumW_eq {l : List Xt} (hl : l.length ≤ 1000000) (ha : ∀ x ∈ l, xtBad x = false) : sumW l = xtSum l := by
  have key : ∀ k, k ≤ l.length → sumW (l.take k) = xtSum (l.take k) := by
    intro k
    induction k with
    | zero => intro _; rfl
    | succ k ih =>
      intro hk
      have e : l.take (k + 1) = l.take k ++ [l[k]] := List.take_succ_eq_append_getElem (by omega)
      have hb := xtSum_bd k (l.take k) (by rw [List.length_take]; omega) fun x hx => ha x (List.mem_of_mem_take hx)
      have hc := xtBad_len (ha l[k] (List.getElem_mem _))
      rw [e, sumW_snoc, xtSum_snoc, ih (by omega)]
      unfold wrap64
      omega
  have := key l.length (Nat.le_refl _)
  rwa [List.take_length] at this
theorem entErrR_eq {e : Ent} (h : e.exts.length ≤ 1000000) : entErrR e = entErr e := by
  unfold entErrR entErr
  by_cases h8 : xtsErr (e.kind == 1) e.exts = 0
  · have : sumW e.exts = xtSum e.exts := by
      cases hk : (e.kind == 1)
      · rw [hk] at h8
        cases hx : e.exts with
        | nil => rfl
        | cons y l => rw [hx] at h8; simp [xtsErr] at h8
      · rw [hk] at h8
        exact sumW_eq h (xtsErr_ok _ h8)
    rw [this]
  · simp only [h8, ne_eq, not_false_eq_true, if_true]

/-- The cells of a boxed entry. -/
structure EntB (w : World) (n : Nat) (e : Ent) (va vx : Value) : Prop where
  c0 : w.cell? ⟨n, 0, none⟩ = some (.int .i64 e.kind)
  c1 : w.cell? ⟨n, 1, none⟩ = some (S e.path)
  c2 : w.cell? ⟨n, 2, none⟩ = some va
  c3 : w.cell? ⟨n, 3, none⟩ = some (S e.target)
  c4 : w.cell? ⟨n, 4, none⟩ = some (.int .i64 e.size)
  c5 : w.cell? ⟨n, 5, none⟩ = some (S e.digest)
  c6 : w.cell? ⟨n, 6, none⟩ = some vx
theorem EntB.thru {w w' : World} {n : Nat} {e : Ent} {va vx : Value} (h : EntB w n e va vx) (hb : Below w.heap.size w w') : EntB w' n e va vx :=
  ⟨cell_thru hb h.c0, cell_thru hb h.c1, cell_thru hb h.c2, cell_thru hb h.c3, cell_thru hb h.c4, cell_thru hb h.c5, cell_thru hb h.c6⟩
theorem EntB.past {w : World} {n : Nat} {e : Ent} {va vx : Value} (h : EntB w n e va vx) (x : Obj) : EntB (w.alloc x) n e va vx :=
  ⟨cell_past x h.c0, cell_past x h.c1, cell_past x h.c2, cell_past x h.c3, cell_past x h.c4, cell_past x h.c5, cell_past x h.c6⟩
theorem entB {W w' : World} {e : Ent} {va vx : Value} {t : TypeId} {n : Nat} (hn : n = W.heap.size) (hb : Below (W.alloc (.cells #[.int .i64 e.kind, S e.path, va, S e.target, .int .i64 e.size, S e.digest, vx] t)).heap.size (W.alloc (.cells #[.int .i64 e.kind, S e.path, va, S e.target, .int .i64 e.size, S e.digest, vx] t)) w') : EntB w' n e va vx := by
  subst hn
  exact EntB.thru ⟨by simp, by simp, by simp, by simp, by simp, by simp, by simp⟩ hb

end Go.Proofs.YtcbmdghnlbieeaaGreatDoor
