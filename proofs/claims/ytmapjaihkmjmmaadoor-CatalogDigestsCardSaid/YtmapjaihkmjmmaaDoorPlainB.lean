/-
  The plain law of Add: at a valid list the binary search finds what the pass over the list finds.
-/
import Derived.Test.YtmapjaihkmjmmaaDoorCatG
namespace Go.Proofs.YtmapjaihkmjmmaaDoor
open Go.RowKit

theorem bl_irrefl : ∀ a : Bytes, Op.bytesLess a a = false
  | [] => rfl
  | x :: a => by rw [Op.bytesLess, bl_irrefl a]; simp

theorem bl_trans : ∀ {a b c : Bytes}, Op.bytesLess a b = true → Op.bytesLess b c = true → Op.bytesLess a c = true
  | _, [], _, h, _ => by simp [Op.bytesLess] at h
  | _, _ :: _, [], _, h => by simp [Op.bytesLess] at h
  | [], _ :: _, _ :: _, _, _ => rfl
  | x :: a, y :: b, z :: c, h, k => by
    simp only [Op.bytesLess, Bool.or_eq_true, Bool.and_eq_true, decide_eq_true_eq, beq_iff_eq] at h k ⊢
    rcases h with h | ⟨rfl, h⟩ <;> rcases k with k | ⟨rfl, k⟩
    · exact .inl (UInt8.lt_trans h k)
    · exact .inl h
    · exact .inl k
    · exact .inr ⟨rfl, bl_trans h k⟩

theorem bl_total : ∀ (a b : Bytes), Op.bytesLess a b = true ∨ a = b ∨ Op.bytesLess b a = true
  | [], [] => .inr (.inl rfl)
  | [], _ :: _ => .inl rfl
  | _ :: _, [] => .inr (.inr rfl)
  | x :: a, y :: b => by
    simp only [Op.bytesLess, Bool.or_eq_true, Bool.and_eq_true, decide_eq_true_eq, beq_iff_eq, List.cons.injEq]
    by_cases h : x = y
    · subst h
      rcases bl_total a b with h | h | h
      · exact .inl (.inr ⟨rfl, h⟩)
      · exact .inr (.inl ⟨rfl, h⟩)
      · exact .inr (.inr (.inr ⟨rfl, h⟩))
    · rcases UInt8.lt_or_lt_of_ne h with h | h
      · exact .inl (.inl h)
      · exact .inr (.inr (.inl h))

theorem bl_asymm {a b : Bytes} (h : Op.bytesLess a b = true) : Op.bytesLess b a = false := by
  cases k : Op.bytesLess b a
  · rfl
  · have := bl_trans h k; rw [bl_irrefl] at this; exact absurd this (by simp)
theorem bl_ne {a b : Bytes} (h : Op.bytesLess a b = true) : a ≠ b := by
  rintro rfl; rw [bl_irrefl] at h; exact absurd h (by simp)

theorem strGt_eq (a b : Bytes) : strGt a b = Op.bytesLess b a := by
  rw [strGt]
  rcases bl_total a b with h | h | h
  · rw [h, bl_asymm h]; rfl
  · subst h; rw [bl_irrefl]; simp
  · rw [bl_asymm h, h]
    have : (a == b) = false := beq_eq_false_iff_ne.2 (bl_ne h).symm
    rw [this]; rfl

/-- What a binary search ends at. -/
theorem bs_spec (p : Nat → Bool) (lo hi : Nat) (h : lo ≤ hi) : (lo < bs p lo hi → p (bs p lo hi - 1) = false) ∧ (bs p lo hi < hi → p (bs p lo hi) = true) := by
  induction lo, hi using bs.induct p with
  | case1 lo hi hlt hp ih =>
    rw [bs, dif_pos hlt, if_pos hp]
    have h1 := ih (by omega)
    have h2 := bs_le p lo ((lo + hi) / 2) (by omega)
    refine ⟨h1.1, fun _ => ?_⟩
    by_cases hm : bs p lo ((lo + hi) / 2) < (lo + hi) / 2
    · exact h1.2 hm
    · rw [show bs p lo ((lo + hi) / 2) = (lo + hi) / 2 by omega]; exact hp
  | case2 lo hi hlt hp ih =>
    rw [bs, dif_pos hlt, if_neg hp]
    have h1 := ih (by omega)
    have h2 := bs_le p ((lo + hi) / 2 + 1) hi (by omega)
    refine ⟨fun _ => ?_, h1.2⟩
    by_cases hm : (lo + hi) / 2 + 1 < bs p ((lo + hi) / 2 + 1) hi
    · exact h1.1 hm
    · rw [show bs p ((lo + hi) / 2 + 1) hi - 1 = (lo + hi) / 2 by omega]; simpa using hp
  | case3 lo hi hlt => rw [bs, dif_neg hlt]; exact ⟨fun h => absurd h (by omega), fun h => absurd h hlt⟩

/-- Keys rise. -/
def Rises (l : List Rec) : Prop := l.Pairwise fun a b => Op.bytesLess (recKey a) (recKey b) = true

theorem rises_cons {x : Rec} {l : List Rec} : Rises (x :: l) ↔ (∀ r ∈ l, Op.bytesLess (recKey x) (recKey r) = true) ∧ Rises l := List.pairwise_cons

theorem recCheckFrom_eq (l : List Rec) : ∀ p : Option Rec, recCheckFrom p l = 0 ↔ (∀ r ∈ l, recValid r = 0) ∧ (∀ q, p = some q → ∀ r ∈ l, Op.bytesLess (recKey q) (recKey r) = true) ∧ Rises l := by
  induction l with
  | nil => intro p; simp [recCheckFrom, Rises]
  | cons x l ih =>
    intro p
    rw [recCheckFrom]
    by_cases h0 : recValid x = 0
    · rw [if_neg (by simpa using h0)]
      cases p with
      | none =>
        simp only [Option.any_none, Bool.false_eq_true, if_false]
        rw [ih, rises_cons]
        constructor
        · rintro ⟨h1, h2, h3⟩
          exact ⟨by simpa [h0] using h1, by simp, h2 x rfl, h3⟩
        · rintro ⟨h1, _, h2, h3⟩
          exact ⟨fun r hr => h1 r (List.mem_cons_of_mem _ hr), fun q hq r hr => by cases hq; exact h2 r hr, h3⟩
      | some q =>
        simp only [Option.any_some]
        by_cases hb : Op.bytesLess (recKey q) (recKey x) = true
        · rw [if_neg (by simp [hb]), ih, rises_cons]
          constructor
          · rintro ⟨h1, h2, h3⟩
            refine ⟨by simpa [h0] using h1, ?_, h2 x rfl, h3⟩
            intro q' hq' r hr
            cases hq'
            rcases List.mem_cons.1 hr with rfl | hr
            · exact hb
            · exact bl_trans hb (h2 x rfl r hr)
          · rintro ⟨h1, _, h2, h3⟩
            exact ⟨fun r hr => h1 r (List.mem_cons_of_mem _ hr), fun q hq r hr => by cases hq; exact h2 r hr, h3⟩
        · rw [if_pos (by simp [hb])]
          constructor
          · intro h; omega
          · rintro ⟨_, h, _⟩; exact absurd (h q rfl x (List.mem_cons_self ..)) hb
    · rw [if_pos (by simpa using h0)]
      constructor
      · intro h; exact absurd h h0
      · rintro ⟨h, _⟩; exact absurd (h x (List.mem_cons_self ..)) h0

theorem recCheck_eq (l : List Rec) : recCheck l = 0 ↔ (∀ r ∈ l, recValid r = 0) ∧ Rises l := by
  rw [recCheck, recCheckFrom_eq]; simp

/-- The binary search's place at a rising list. -/
theorem recIndex_spec {l : List Rec} (h : Rises l) (key : Bytes) : (∀ r ∈ l.take (recIndex l key), Op.bytesLess (recKey r) key = true) ∧ (∀ r ∈ l.drop (recIndex l key), Op.bytesLess (recKey r) key = false) := by
  obtain ⟨h1, h2⟩ := bs_spec (fun i => (l[i]?).all fun r => !(Op.bytesLess (recKey r) key)) 0 l.length (Nat.zero_le _)
  have hle := recIndex_le l key
  change (0 < recIndex l key → _) at h1
  change (recIndex l key < l.length → _) at h2
  have hs := List.pairwise_iff_getElem.1 h
  constructor
  · intro r hr
    obtain ⟨i, hi, rfl⟩ := List.getElem_of_mem hr
    rw [List.getElem_take]
    simp at hi
    have h3 := h1 (by omega)
    change Option.all _ l[recIndex l key - 1]? = false at h3
    rw [List.getElem?_eq_getElem (by omega)] at h3
    simp at h3
    by_cases he : i = recIndex l key - 1
    · subst he; exact h3
    · exact bl_trans (hs i (recIndex l key - 1) (by omega) (by omega) (by omega)) h3
  · intro r hr
    obtain ⟨i, hi, rfl⟩ := List.getElem_of_mem hr
    rw [List.getElem_drop]
    simp at hi
    have h3 := h2 (by omega)
    change Option.all _ l[recIndex l key]? = true at h3
    rw [List.getElem?_eq_getElem (by omega)] at h3
    simp at h3
    by_cases he : i = 0
    · subst he; exact h3
    · cases hb : Op.bytesLess (recKey l[recIndex l key + i]) key with
      | false => rfl
      | true =>
        have := bl_trans (hs (recIndex l key) (recIndex l key + i) (by omega) (by omega) (by omega)) hb
        rw [this] at h3; exact absurd h3 (by simp)

theorem refAddGo_done (r : Rec) (l : List Rec) (h : ∀ x ∈ l, recKey x ≠ recKey r) : ∀ out, refAddGo r true out l = (out ++ l, 0) := by
  induction l with
  | nil => intro out; simp [refAddGo]
  | cons x l ih =>
    intro out
    rw [refAddGo, if_neg (h x (List.mem_cons_self ..))]
    simp only [Bool.not_true, Bool.false_and, Bool.false_eq_true, if_false]
    rw [ih fun y hy => h y (List.mem_cons_of_mem _ hy), List.append_assoc]; rfl

theorem refAddGo_skip (r : Rec) (A B : List Rec) (h : ∀ x ∈ A, Op.bytesLess (recKey x) (recKey r) = true) : ∀ out, refAddGo r false out (A ++ B) = refAddGo r false (out ++ A) B := by
  induction A with
  | nil => intro out; simp
  | cons x A ih =>
    intro out
    have hx := h x (List.mem_cons_self ..)
    rw [List.cons_append, refAddGo, if_neg (bl_ne hx), strGt_eq, bl_asymm hx]
    simp only [Bool.and_false, Bool.false_eq_true, if_false]
    rw [ih fun y hy => h y (List.mem_cons_of_mem _ hy), List.append_assoc]; rfl

theorem recAdd_eq {l : List Rec} (h : Rises l) (r : Rec) : recAdd l r = refAdd l r := by
  rw [recAdd, refAdd]
  by_cases h0 : recValid r = 0
  · rw [if_neg (by simpa using h0), if_neg (by simpa using h0)]
    obtain ⟨h1, h2⟩ := recIndex_spec h (recKey r)
    generalize recIndex l (recKey r) = i at h1 h2
    have e : refAddGo r false [] l = refAddGo r false (l.take i) (l.drop i) := by
      rw [← List.nil_append (l.take i), ← refAddGo_skip r (l.take i) (l.drop i) h1, List.take_append_drop]
    rw [e]
    cases hl : l[i]? with
    | none =>
      have : l.drop i = [] := List.drop_of_length_le (List.getElem?_eq_none_iff.1 hl)
      simp only [this, refAddGo]; simp
    | some x =>
      obtain ⟨hi, hx⟩ := List.getElem?_eq_some_iff.1 hl
      have hd : l.drop i = x :: l.drop (i + 1) := by rw [List.drop_eq_getElem_cons hi, hx]
      have hrest : ∀ y ∈ l.drop (i + 1), Op.bytesLess (recKey x) (recKey y) = true := by
        have := h.drop (i := i)
        rw [hd, List.pairwise_cons] at this
        exact this.1
      have hx2 := h2 x (by rw [hd]; exact List.mem_cons_self ..)
      simp only [hd, refAddGo]
      by_cases hk : recKey x = recKey r
      · rw [if_neg (by simpa using hk), if_pos hk]
        by_cases hdd : x.d = r.d
        · rw [if_neg (by simpa using hdd), if_pos hdd, refAddGo_done r _ fun y hy => ?_]
          · rw [List.append_assoc, List.singleton_append, ← hd, List.take_append_drop]
          · have := bl_ne (hrest y hy); rw [hk] at this; exact this.symm
        · rw [if_pos (by simpa using hdd), if_neg hdd]
      · have hgt : Op.bytesLess (recKey r) (recKey x) = true := by
          rcases bl_total (recKey r) (recKey x) with h | h | h
          · exact h
          · exact absurd h.symm hk
          · rw [h] at hx2; exact absurd hx2 (by simp)
        rw [if_pos (by simpa using hk), if_neg hk, strGt_eq, hgt]
        simp only [Bool.not_false, Bool.and_self, if_true]
        rw [refAddGo_done r _ fun y hy => (bl_ne (bl_trans hgt (hrest y hy))).symm]
        simp
  · rw [if_pos (by simpa using h0), if_pos (by simpa using h0)]
end Go.Proofs.YtmapjaihkmjmmaaDoor
