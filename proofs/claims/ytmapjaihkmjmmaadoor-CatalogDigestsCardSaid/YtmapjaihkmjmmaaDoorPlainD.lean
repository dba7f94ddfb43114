/-
  Plain laws of ranges of records: which records a range holds, and how many.
-/
import Derived.Test.YtmapjaihkmjmmaaDoorPlainC
namespace Go.Proofs.YtmapjaihkmjmmaaDoor
open Go.RowKit

/-- A record lies in a range. -/
def inRange (f t : Bytes) (r : Rec) : Bool := !(Op.bytesLess (recKey r) f) && (decide (t = []) || Op.bytesLess (recKey r) t)
def recIn (l : List Rec) (f t : Bytes) : List Rec := l.filter (inRange f t)

/-- Where a range begins and ends, by binary search. -/
def recFirst (l : List Rec) (f : Bytes) : Nat := recIndex l f
def recLast (l : List Rec) (f t : Bytes) : Nat := if t = [] then l.length else max (recIndex l f) (recIndex l t)

theorem recLast_bounds (l : List Rec) (f t : Bytes) : recFirst l f ≤ recLast l f t ∧ recLast l f t ≤ l.length := by
  have h1 := recIndex_le l f
  have h2 := recIndex_le l t
  unfold recFirst recLast
  split <;> omega

theorem filter_all {α : Type} {p : α → Bool} {l : List α} (h : ∀ x ∈ l, p x = true) : l.filter p = l := List.filter_eq_self.2 h
theorem filter_none {α : Type} {p : α → Bool} {l : List α} (h : ∀ x ∈ l, p x = false) : l.filter p = [] := List.filter_eq_nil_iff.2 fun x hx => by rw [h x hx]; simp

theorem recIn_eq {l : List Rec} (h : Rises l) (f t : Bytes) : recIn l f t = (l.drop (recFirst l f)).take (recLast l f t - recFirst l f) := by
  obtain ⟨h1, h2⟩ := recIndex_spec h f
  obtain ⟨h3, h4⟩ := recIndex_spec h t
  unfold recIn recFirst recLast
  have e0 : l.filter (inRange f t) = (l.drop (recIndex l f)).filter (inRange f t) := by
    conv => lhs; rw [← List.take_append_drop (recIndex l f) l]
    rw [List.filter_append, filter_none (fun x hx => by rw [inRange, h1 x hx]; rfl), List.nil_append]
  rw [e0]
  generalize recIndex l f = i at *
  generalize recIndex l t = j at *
  by_cases ht : t = []
  · rw [if_pos ht, List.take_of_length_le (by simp), filter_all (fun x hx => by rw [inRange, h2 x hx]; simp [ht])]
  · rw [if_neg ht]
    by_cases hij : i ≤ j
    · rw [Nat.max_eq_right hij]
      have e1 : l.drop i = (l.drop i).take (j - i) ++ l.drop j := by
        conv => lhs; rw [← List.take_append_drop (j - i) (l.drop i)]
        rw [List.drop_drop, show i + (j - i) = j by omega]
      have e2 : (l.drop i).take (j - i) = (l.take j).drop i := by rw [List.drop_take]
      conv => lhs; rw [e1]
      rw [List.filter_append, filter_none (l := l.drop j) (fun x hx => by rw [inRange, h4 x hx]; simp [ht]), List.append_nil, filter_all]
      intro x hx
      have hx1 : x ∈ l.drop i := List.mem_of_mem_take hx
      rw [e2] at hx
      have hx2 : x ∈ l.take j := List.mem_of_mem_drop hx
      rw [inRange, h2 x hx1, h3 x hx2]; simp
    · rw [Nat.max_eq_left (by omega), Nat.sub_self, List.take_zero, filter_none]
      intro x hx
      have : x ∈ l.drop j := by
        have e : l.drop i = (l.drop j).drop (i - j) := by rw [List.drop_drop, show j + (i - j) = i by omega]
        rw [e] at hx
        exact List.mem_of_mem_drop hx
      rw [inRange, h4 x this]; simp [ht]

theorem recIn_length {l : List Rec} (h : Rises l) (f t : Bytes) : (recIn l f t).length = recLast l f t - recFirst l f := by
  have := recLast_bounds l f t
  rw [recIn_eq h, List.length_take, List.length_drop]
  omega

theorem bl_nil (a : Bytes) : Op.bytesLess a [] = false := by cases a <;> rfl
theorem bl_le_trans {a b c : Bytes} (h : Op.bytesLess b a = false) (k : Op.bytesLess c b = false) : Op.bytesLess c a = false := by
  cases e : Op.bytesLess c a with
  | false => rfl
  | true =>
    rcases bl_total a b with h1 | h1 | h1
    · rw [bl_trans e h1] at k; exact absurd k (by simp)
    · subst h1; rw [e] at k; exact absurd k (by simp)
    · rw [h1] at h; exact absurd h (by simp)

/-- A range consists of its two parts. -/
theorem recIn_parts (l : List Rec) (f m t : Bytes) (h1 : Op.bytesLess m f = false) (h2 : t = [] ∨ Op.bytesLess t m = false) (hm : m ≠ []) : (recIn l f t).length = (recIn l f m).length + (recIn l m t).length := by
  have key : ∀ r : Rec, (inRange f t r = true ∧ (inRange f m r = true ∧ inRange m t r = false ∨ inRange f m r = false ∧ inRange m t r = true)) ∨ (inRange f t r = false ∧ inRange f m r = false ∧ inRange m t r = false) := by
    intro r
    unfold inRange
    rw [decide_eq_false hm]
    cases e1 : Op.bytesLess (recKey r) m
    · -- m ≤ key
      have e2 := bl_le_trans h1 e1
      rw [e2]
      cases e3 : (decide (t = []) || Op.bytesLess (recKey r) t) <;> simp
    · have e3 : (decide (t = []) || Op.bytesLess (recKey r) t) = true := by
        rcases h2 with h2 | h2
        · simp [h2]
        · rw [Bool.or_eq_true]
          right
          rcases bl_total m t with h | h | h
          · exact bl_trans e1 h
          · subst h; exact e1
          · rw [h] at h2; exact absurd h2 (by simp)
      rw [e3]
      cases e2 : Op.bytesLess (recKey r) f <;> simp
  unfold recIn
  induction l with
  | nil => rfl
  | cons r l ih =>
    rw [List.filter_cons, List.filter_cons, List.filter_cons]
    rcases key r with ⟨a, ⟨b, c⟩ | ⟨b, c⟩⟩ | ⟨a, b, c⟩ <;> simp [a, b, c] <;> omega

theorem recIn_whole (l : List Rec) : recIn l [] [] = l := filter_all fun x _ => by simp [inRange, bl_nil]

/-! ### Digits in order -/
theorem refDigits_append : ∀ (w n : Nat) (s : Bytes), refDigits w n s = refDigits w n [] ++ s
  | 0, _, s => by simp [refDigits]
  | w + 1, n, s => by
    rw [refDigits, refDigits, refDigits_append w (n / 10) (_ :: s), refDigits_append w (n / 10) [_], List.append_assoc]; rfl

theorem digit_lt {n m : Nat} (hn : n < 10) (hm : m < 10) : ((48 : UInt8) + UInt8.ofNat n < 48 + UInt8.ofNat m) ↔ n < m := by
  rw [digit_eq, digit_eq, UInt8.lt_iff_toNat_lt]
  simp
  omega

theorem bl_digits : ∀ (w a b : Nat) (s t : Bytes), a < 10 ^ w → b < 10 ^ w → Op.bytesLess (refDigits w a s) (refDigits w b t) = if a < b then true else if a = b then Op.bytesLess s t else false
  | 0, a, b, s, t, ha, hb => by
    simp at ha hb
    subst ha; subst hb
    simp [refDigits]
  | w + 1, a, b, s, t, ha, hb => by
    rw [Nat.pow_succ] at ha hb
    rw [refDigits, refDigits, bl_digits w (a / 10) (b / 10) _ _ (by omega) (by omega)]
    have hd := digit_lt (n := a % 10) (m := b % 10) (by omega) (by omega)
    by_cases h1 : a / 10 < b / 10
    · rw [if_pos h1, if_pos (by omega)]
    · rw [if_neg h1]
      by_cases h2 : a / 10 = b / 10
      · rw [if_pos h2, Op.bytesLess]
        by_cases h3 : a % 10 < b % 10
        · rw [decide_eq_true (hd.2 h3), if_pos (by omega)]; rfl
        · rw [decide_eq_false (fun h => h3 (hd.1 h)), if_neg (by omega)]
          by_cases h4 : a % 10 = b % 10
          · rw [h4, if_pos (by omega)]; simp
          · rw [if_neg (by omega)]
            have : ((48 : UInt8) + UInt8.ofNat (a % 10) == 48 + UInt8.ofNat (b % 10)) = false := by
              rw [beq_eq_false_iff_ne]
              intro h; exact h4 (digit_inj (by omega) (by omega) h)
            rw [this]; rfl
      · rw [if_neg h2, if_neg (by omega), if_neg (by omega)]

/-- A valid record's key against an archive's head. -/
theorem key_lt_head {r : Rec} (hv : recValid r = 0) (hw : r.Wf) (n : Nat) (hn : n < 4294967296) : Op.bytesLess (recKey r) (refDigits 10 n []) = decide (r.a < n) := by
  have := hw.1
  rw [recKey, if_pos hv, ← refDigits_append, bl_digits 10 r.a n _ _ (by omega) (by omega)]
  by_cases h : r.a < n
  · rw [if_pos h, decide_eq_true h]
  · rw [if_neg h, decide_eq_false h]
    split
    · exact bl_nil _
    · rfl

theorem head_ne_nil (n : Nat) : refDigits 10 n [] ≠ [] := fun h => by
  have := congrArg List.length h
  rw [refDigits_length] at this
  simp at this
end Go.Proofs.YtmapjaihkmjmmaaDoor
