/-
  What Go's library computes on paths, as the plain laws have it: Split, Join, ContainsFunc, Equal, CompareFunc. No program.
-/
import Derived.Test.YtcbmdghnlbieeaaGreatDoorPth
import Derived.Lib.SplitLaws
import Derived.Lib.Join
import Derived.Laws.RangeAny
import Derived.Shelf.GgClosure.StringsIndexFunc
namespace Go.Proofs.YtcbmdghnlbieeaaGreatDoor

theorem split_els : ∀ (s : Bytes), Lib.split s [47] = elsGo [] s := by
  have key : ∀ (n : Nat) (s : Bytes), s.length ≤ n → Lib.split s [47] = elsGo [] s := by
    intro n
    induction n with
    | zero =>
      intro s h
      have : s = [] := List.eq_nil_of_length_eq_zero (by omega)
      subst this
      rfl
    | succ n ih =>
      intro s h
      rcases Lib.index_spec s [47] with ⟨h1, h2⟩ | ⟨i, h1, h2, h3, h4⟩
      · have hn : ∀ c ∈ s, c ≠ 47 := by
          intro c hc e
          obtain ⟨j, hj, rfl⟩ := List.getElem_of_mem hc
          have := h2 j (by omega)
          unfold Lib.occAt at this
          rw [List.drop_eq_getElem_cons hj, e] at this
          simp at this
        have h5 := elsGo_part s [] [] hn
        rw [List.append_nil, List.nil_append] at h5
        rw [h5, Lib.split, Lib.count_miss h1]
        rfl
      · have hi : i < s.length ∧ s[i]? = some 47 := by
          have h6 := Lib.occAt_head rfl h3
          exact ⟨(List.getElem?_eq_some_iff.1 h6).1, h6⟩
        have hn : ∀ c ∈ s.take i, c ≠ 47 := by
          intro c hc e
          obtain ⟨j, hj, rfl⟩ := List.getElem_of_mem hc
          have hji : j < i := by simp at hj; omega
          have := h4 j hji
          unfold Lib.occAt at this
          rw [List.drop_eq_getElem_cons (by omega)] at this
          rw [List.getElem_take] at e
          rw [e] at this
          simp at this
        have hs : s = s.take i ++ 47 :: s.drop (i + 1) := by
          conv => lhs; rw [← List.take_append_drop i s, List.drop_eq_getElem_cons hi.1]
          have := hi.2
          rw [List.getElem?_eq_getElem hi.1] at this
          rw [Option.some.inj this]
        have h5 := elsGo_part (s.take i) [] (47 :: s.drop (i + 1)) hn
        rw [← hs, List.nil_append] at h5
        rw [h5, elsGo, if_pos (by rfl), ← ih (s.drop (i + 1)) (by rw [List.length_drop]; omega)]
        rw [Lib.split, Lib.count_hit (by simp) h1, Nat.add_comm, Lib.splitK, if_neg (by rw [h1]; simp), h1]
        rfl
  exact fun s => key s.length s (Nat.le_refl _)

theorem join_els (l : List Bytes) : Lib.join l [47] = joinP l := by
  induction l with
  | nil => rfl
  | cons p l ih =>
    cases l with
    | nil => simp [Lib.join, List.intercalate, joinP]
    | cons q l =>
      rw [joinP, ← ih]
      simp [Lib.join, List.intercalate]

/-- The rune predicate of a component: not allowed. -/
def notAllowed (r : Nat) : Bool := !(decide (97 ≤ r) && decide (r ≤ 122) || decide (48 ≤ r) && decide (r ≤ 57) || decide (r = 46) || decide (r = 95) || decide (r = 45))
theorem keyChar_not (c : UInt8) : keyChar c = !(notAllowed c.toNat) := by
  have e : ∀ n : Nat, n < 256 → (c == UInt8.ofNat n) = decide (c.toNat = n) := fun n hn => by
    rw [Bool.eq_iff_iff, beq_iff_eq, decide_eq_true_iff]
    constructor
    · intro h; rw [h]; simp; omega
    · intro h
      have : c = UInt8.ofNat c.toNat := by simp
      rw [this, h]
  unfold keyChar notAllowed
  rw [show (46 : UInt8) = UInt8.ofNat 46 from rfl, show (95 : UInt8) = UInt8.ofNat 95 from rfl, show (45 : UInt8) = UInt8.ofNat 45 from rfl, e 46 (by omega), e 95 (by omega), e 45 (by omega)]
  simp [UInt8.le_iff_toNat_le]
theorem notAllowed_high {r : Nat} (h : 128 ≤ r) : notAllowed r = true := by
  unfold notAllowed
  simp
  omega

theorem idx_from (s : ByteArray) : ∀ (f pos : Nat), s.size ≤ pos + f → decide (0 ≤ Lib.idxFuncFrom notAllowed true s f pos) = !((s.data.toList.drop pos).all keyChar) := by
  intro f
  induction f with
  | zero =>
    intro pos h
    have hl : s.data.toList.length = s.size := Array.length_toList
    rw [List.drop_of_length_le (by omega)]
    rfl
  | succ f ih =>
    intro pos h
    have hl : s.data.toList.length = s.size := Array.length_toList
    rw [Lib.idxFuncFrom]
    by_cases hp : pos < s.size
    · rw [if_pos hp, List.drop_eq_getElem_cons (by omega), List.all_cons]
      have hb : s.data.toList[pos]'(by omega) = s[pos]'hp := by
        rw [Array.getElem_toList]; rfl
      rw [hb]
      by_cases ha : (s[pos]'hp).toNat < 128
      · rw [decode_ascii s pos hp ha]
        have hk := keyChar_not (s[pos]'hp)
        cases hn : notAllowed (s[pos]'hp).toNat
        · rw [if_neg (by simp), hk, hn, ih (pos + 1) (by omega)]
          simp
        · rw [if_pos rfl, hk, hn]
          simp
      · have hd := decode_high s pos hp (by omega)
        rw [if_pos (notAllowed_high hd.1), keyChar_not, notAllowed_high (by omega)]
        simp
    · rw [if_neg hp, List.drop_of_length_le (by omega)]
      rfl
theorem idx_comp (s : Bytes) : decide (0 ≤ Lib.idxFunc notAllowed true ⟨s.toArray⟩) = !(s.all keyChar) := by
  have := idx_from ⟨s.toArray⟩ (⟨s.toArray⟩ : ByteArray).size 0 (by omega)
  rw [Lib.idxFunc, this]
  simp

/-- How two lists of parts compare. -/
def cmpL (a b : List Bytes) : Int := if ltP a b then -1 else if ltP b a then 1 else 0
theorem cmpP_eq (a b : Bytes) : cmpP a b = cmpL (els a) (els b) := rfl
theorem cmpL_cons_eq (x : Bytes) (a b : List Bytes) : cmpL (x :: a) (x :: b) = cmpL a b := by
  unfold cmpL
  rw [ltP, ltP, bl_irrefl]
  simp
theorem cmpL_cons_lt {x y : Bytes} (h : Op.bytesLess x y = true) (a b : List Bytes) : cmpL (x :: a) (y :: b) = -1 := by
  unfold cmpL
  rw [ltP, h]
  simp
theorem cmpL_cons_gt {x y : Bytes} (h : Op.bytesLess y x = true) (a b : List Bytes) : cmpL (x :: a) (y :: b) = 1 := by
  unfold cmpL
  rw [ltP, ltP, h, bl_asymm h]
  have : (x == y) = false := by simpa using (bl_ne h).symm
  rw [this]
  simp
theorem cmpL_nil_cons (y : Bytes) (b : List Bytes) : cmpL [] (y :: b) = -1 := rfl
theorem cmpL_cons_nil (x : Bytes) (a : List Bytes) : cmpL (x :: a) [] = 1 := rfl
theorem cmpL_nil : cmpL [] [] = 0 := rfl
theorem cmpL_cases (a b : List Bytes) : cmpL a b = -1 ∨ cmpL a b = 0 ∨ cmpL a b = 1 := by
  unfold cmpL
  cases ltP a b <;> cases ltP b a <;> simp
/-- The tails from place k on compare as the lists, if the heads are the same. -/
theorem cmpL_drop {a b : List Bytes} {k : Nat} (h : a.take k = b.take k) (ha : k ≤ a.length) (hb : k ≤ b.length) : cmpL a b = cmpL (a.drop k) (b.drop k) := by
  induction k generalizing a b with
  | zero => rfl
  | succ k ih =>
    cases a with
    | nil => simp at ha
    | cons x a =>
      cases b with
      | nil => simp at hb
      | cons y b =>
        simp only [List.take_succ_cons, List.cons.injEq] at h
        obtain ⟨rfl, h⟩ := h
        rw [cmpL_cons_eq, List.drop_succ_cons, List.drop_succ_cons]
        exact ih h (by simpa using ha) (by simpa using hb)
end Go.Proofs.YtcbmdghnlbieeaaGreatDoor
