/-
  Walks of the reference's layer 36: Name, Date, target.
-/
import Derived.Test.YtcbmdghnlbieeaaGreatDoorPaD
namespace Go.Proofs.YtcbmdghnlbieeaaGreatDoor
open Go.RowKit

def nameP (k : Int) : Bytes := if k = 1 then [102, 105, 108, 101] else if k = 2 then [100, 105, 114] else if k = 3 then [108, 105, 110, 107] else if k = 4 then [114, 101, 109, 111, 118, 101] else if k = 5 then [104, 111, 108, 100] else if k = 6 then [114, 101, 108, 101, 97, 115, 101] else []
theorem nameP_nil {k : Int} : nameP k = [] ↔ k < 1 ∨ 6 < k := by
  unfold nameP
  constructor
  · intro h
    by_cases h1 : k < 1 ∨ 6 < k
    · exact h1
    · have : k = 1 ∨ k = 2 ∨ k = 3 ∨ k = 4 ∨ k = 5 ∨ k = 6 := by omega
      rcases this with rfl | rfl | rfl | rfl | rfl | rfl <;> simp at h
  · intro h
    rw [if_neg (by omega), if_neg (by omega), if_neg (by omega), if_neg (by omega), if_neg (by omega), if_neg (by omega)]

set_option maxRecDepth 100000 in
set_option maxHeartbeats 400000 in
theorem ref36_Name (k : Int) (w : World) : Calls Tryz.prog 83 #[.int .i64 k] w fun e w' => e = .returned (S (nameP k)) ∧ w' = w := by
  by_cases h1 : k = 1
  case pos =>
    subst h1
    rw [show nameP 1 = [102, 105, 108, 101] from rfl]
    go_enter Tryz.func83, Tryz.ntmps83
    go_wp2
    go_ret
    exact ⟨rfl, rfl⟩
  by_cases h2 : k = 2
  case pos =>
    subst h2
    rw [show nameP 2 = [100, 105, 114] from rfl]
    go_enter Tryz.func83, Tryz.ntmps83
    go_wp2
    go_ret
    exact ⟨rfl, rfl⟩
  by_cases h3 : k = 3
  case pos =>
    subst h3
    rw [show nameP 3 = [108, 105, 110, 107] from rfl]
    go_enter Tryz.func83, Tryz.ntmps83
    go_wp2
    go_ret
    exact ⟨rfl, rfl⟩
  by_cases h4 : k = 4
  case pos =>
    subst h4
    rw [show nameP 4 = [114, 101, 109, 111, 118, 101] from rfl]
    go_enter Tryz.func83, Tryz.ntmps83
    go_wp2
    go_ret
    exact ⟨rfl, rfl⟩
  by_cases h5 : k = 5
  case pos =>
    subst h5
    rw [show nameP 5 = [104, 111, 108, 100] from rfl]
    go_enter Tryz.func83, Tryz.ntmps83
    go_wp2
    go_ret
    exact ⟨rfl, rfl⟩
  by_cases h6 : k = 6
  case pos =>
    subst h6
    rw [show nameP 6 = [114, 101, 108, 101, 97, 115, 101] from rfl]
    go_enter Tryz.func83, Tryz.ntmps83
    go_wp2
    go_ret
    exact ⟨rfl, rfl⟩
  have hn : nameP k = [] := nameP_nil.2 (by omega)
  have f1 : (k == 1) = false := by simpa using h1
  have f2 : (k == 2) = false := by simpa using h2
  have f3 : (k == 3) = false := by simpa using h3
  have f4 : (k == 4) = false := by simpa using h4
  have f5 : (k == 5) = false := by simpa using h5
  have f6 : (k == 6) = false := by simpa using h6
  rw [hn]
  clear hn h1 h2 h3 h4 h5 h6
  go_enter Tryz.func83, Tryz.ntmps83
  go_wp2
  go_ret
  exact ⟨rfl, rfl⟩

def digC (c : UInt8) : Bool := decide (48 ≤ c) && decide (c ≤ 57)
theorem digC_nat (c : UInt8) : digC c = (decide (48 ≤ c.toNat) && decide (c.toNat ≤ 57)) := by
  unfold digC
  simp [UInt8.le_iff_toNat_le]
theorem digits_snoc (l : Bytes) (c : UInt8) : digits (l ++ [c]) = 10 * digits l + ((c.toNat : Int) - 48) := by
  simp [digits, List.foldl_append]
theorem digits_bd : ∀ (n : Nat) (l : Bytes), l.length = n → l.all digC = true → 0 ≤ digits l ∧ digits l < 10 ^ n := by
  intro n
  induction n with
  | zero =>
    intro l h _
    have : l = [] := List.eq_nil_of_length_eq_zero h
    subst this
    exact ⟨Int.le_refl _, by decide⟩
  | succ n ih =>
    intro l h ha
    have hne : l ≠ [] := by intro e; rw [e] at h; simp at h
    have e : l = l.dropLast ++ [l.getLast hne] := (List.dropLast_concat_getLast hne).symm
    have hl : l.dropLast.length = n := by rw [List.length_dropLast, h]; omega
    rw [e, List.all_append, Bool.and_eq_true] at ha
    obtain ⟨i1, i2⟩ := ih _ hl ha.1
    have hc := ha.2
    simp only [List.all_cons, List.all_nil, Bool.and_true] at hc
    rw [digC_nat, Bool.and_eq_true, decide_eq_true_iff, decide_eq_true_iff] at hc
    rw [e, digits_snoc, Int.pow_succ]
    generalize digits l.dropLast = d at i1 i2
    generalize ((10 : Int) ^ n) = p at i1 i2 ⊢
    omega

/-- What Date returns. -/
def dateP (s : Bytes) : Int × Bool := if s.length < 1 ∨ 10 < s.length ∨ (1 < s.length ∧ s.head? = some 48) ∨ s.all digC = false then (0, false) else (digits s, decide (digits s ≤ 1000000000))
theorem dateP_ok (s : Bytes) : (dateP s).2 = dateOk s := by
  unfold dateP dateOk
  have hd : (fun c : UInt8 => decide (48 ≤ c) && decide (c ≤ 57)) = digC := rfl
  rw [hd]
  by_cases h1 : s.length < 1
  · rw [if_pos (.inl h1), decide_eq_false (by omega)]; rfl
  by_cases h2 : 10 < s.length
  · rw [if_pos (.inr (.inl h2)), decide_eq_false (show ¬ s.length ≤ 10 by omega)]; simp
  by_cases h3 : 1 < s.length ∧ s.head? = some 48
  · rw [if_pos (.inr (.inr (.inl h3)))]
    have : (decide (1 < s.length) && s.head? == some 48) = true := by rw [decide_eq_true h3.1, h3.2]; rfl
    rw [this]; simp
  have h3' : (decide (1 < s.length) && s.head? == some 48) = false := by
    cases h : (decide (1 < s.length) && s.head? == some 48) with
    | false => rfl
    | true =>
      rw [Bool.and_eq_true, decide_eq_true_iff, beq_iff_eq] at h
      exact absurd h h3
  rw [h3', decide_eq_true (show 1 ≤ s.length by omega), decide_eq_true (show s.length ≤ 10 by omega)]
  cases h4 : s.all digC
  · rw [if_pos (.inr (.inr (.inr rfl)))]; simp
  · rw [if_neg (by simp [h1, h2, h3])]; simp

set_option maxRecDepth 100000 in
set_option maxHeartbeats 1000000 in
theorem ref36_Date (s : Bytes) (hs : s.length ≤ 9223372036854775807) (w : World) :
    Calls Tryz.prog 116 #[S s] w fun e w' => e = .returned (.tuple #[.int .i64 (dateP s).1, .bool (dateP s).2]) ∧ Below w.heap.size w w' := by
  by_cases h1 : s.length < 1
  case pos =>
    have hd1 : decide (s.length < 1) = true := decide_eq_true h1
    have Hp := Lib.hid (show dateP s = (0, false) by rw [dateP, if_pos (.inl h1)])
    go_enter Tryz.func116, Tryz.ntmps116
    go_wp2
    go_ret2
    rw [Hp.out]
    exact ⟨rfl, Below.refl _ _⟩
  have hd1 : decide (s.length < 1) = false := decide_eq_false h1
  by_cases h2 : 10 < s.length
  case pos =>
    have hd2 : decide (10 < s.length) = true := decide_eq_true h2
    have Hp := Lib.hid (show dateP s = (0, false) by rw [dateP, if_pos (.inr (.inl h2))])
    go_enter Tryz.func116, Tryz.ntmps116
    go_wp2
    go_ret2
    rw [Hp.out]
    exact ⟨rfl, Below.refl _ _⟩
  have hd2 : decide (10 < s.length) = false := decide_eq_false h2
  have hx0 := run_at Tryz.underlying9 s 0 0 rfl (by omega)
  have he0 : ((((s.getD 0 0).toNat : Nat) : Int) == 48) = (s.getD 0 0 == UInt8.ofNat 48) := eq_u8 (s.getD 0 0) 48 (by decide)
  have hh : s.head? = some (s.getD 0 0) := by cases s <;> simp_all
  have hmain : (1 < s.length ∧ s.head? = some 48) ∨ ¬ (1 < s.length ∧ s.head? = some 48) := Classical.em _
  rcases hmain with h3 | h3
  · have hd3 : decide (1 < s.length) = true := decide_eq_true h3.1
    have he1 : (((s.getD 0 0).toNat : Int) == 48) = true := by
      rw [he0]
      have := h3.2
      rw [hh] at this
      rw [Option.some.inj this]; rfl
    have Hp := Lib.hid (show dateP s = (0, false) by rw [dateP, if_pos (.inr (.inr (.inl h3)))])
    generalize (s.getD 0 0).toNat = c0 at hx0 he1
    have hc0 : c0 = 48 := by have := beq_iff_eq.1 he1; omega
    subst hc0
    have h5 := h3.1
    clear h3 he0 hh he1
    go_enter Tryz.func116, Tryz.ntmps116
    go_wp2
    go_ret2
    rw [Hp.out]
    exact ⟨rfl, Below.refl _ _⟩
  · have Hp := Lib.hid (show dateP s = if s.all digC = false then (0, false) else (digits s, decide (digits s ≤ 1000000000)) by
      rw [dateP]
      by_cases h4 : s.all digC = false
      · rw [if_pos (.inr (.inr (.inr h4))), if_pos h4]
      · rw [if_neg (by simp [h1, h2, h3]; simpa using h4), if_neg h4])
    have hcase : (¬ 1 < s.length ∧ decide (1 < s.length) = false) ∨ (1 < s.length ∧ decide (1 < s.length) = true ∧ (((s.getD 0 0).toNat : Int) == 48) = false) := by
      by_cases h5 : 1 < s.length
      · right
        refine ⟨h5, decide_eq_true h5, ?_⟩
        rw [he0, beq_eq_false_iff_ne]
        intro e
        exact h3 ⟨h5, by rw [hh, e]; rfl⟩
      · exact .inl ⟨h5, decide_eq_false h5⟩
    generalize (s.getD 0 0).toNat = c0 at hx0 hcase
    clear h3 he0 hh
    have H10 : s.length ≤ 10 := by omega
    rcases hcase with ⟨h5, hd3⟩ | ⟨h5, hd3, he3⟩
    all_goals
      go_enter Tryz.func116, Tryz.ntmps116
      go_wp2_with fail
      go_loop [4, 5] (fun s4 s5 => ∃ k : Nat, k ≤ s.length ∧ s5 = .int .i64 k ∧ s4 = .int .i64 (digits (s.take k)) ∧ (s.take k).all digC = true) (fun _ i => s.length - (intOf i).toNat)
      case atStart => exact ⟨0, Nat.zero_le _, rfl, rfl, rfl⟩
      case round =>
        obtain ⟨k, hk, rfl, rfl, hr⟩ := hrel
        have hdb := digits_bd k (s.take k) (by rw [List.length_take]; omega) hr
        have Hr := Lib.hid hr; clear hr
        by_cases hlt : k < s.length
        · have hx := run_at Tryz.underlying9 s (k : Int) k rfl hlt
          have hdc := digC_nat (s.getD k 0)
          have hpk : (10 : Int) ^ k ≤ 10000000000 := by
            have : (10 : Nat) ^ k ≤ 10 ^ 10 := Nat.pow_le_pow_right (by decide) (by omega)
            have h2 : ((10 ^ k : Nat) : Int) ≤ ((10 ^ 10 : Nat) : Int) := by exact_mod_cast this
            simpa using h2
          have htk : s.take (k + 1) = s.take k ++ [s.getD k 0] := by rw [List.take_succ_eq_append_getElem hlt]; simp [List.getD, hlt]
          have hds : digits (s.take (k + 1)) = 10 * digits (s.take k) + (((s.getD k 0).toNat : Int) - 48) := by rw [htk, digits_snoc]
          have hmem : s.getD k 0 ∈ s := by simp [List.getD, hlt]
          have hc256 : (s.getD k 0).toNat < 256 := (s.getD k 0).toNat_lt
          generalize s.getD k 0 = ch at hdc htk hx hc256 hds hmem
          generalize ch.toNat = c at hdc hx hc256 hds
          generalize digits (s.take k) = n at hdb hds ⊢
          generalize ((10 : Int) ^ k) = p10 at hdb hpk
          have Htk := Lib.hid htk
          have Hds := Lib.hid hds
          have Hmem := Lib.hid hmem
          clear htk hds hmem
          by_cases hc1 : 48 ≤ c
          case neg =>
            have d48 : decide ((c : Int) < 48) = true := decide_eq_true (by omega)
            have Hn := Lib.hid (show dateP s = (0, false) by
              rw [Hp.out, if_pos]
              cases h : s.all digC with
              | false => rfl
              | true =>
                have := List.all_eq_true.1 h ch Hmem.out
                rw [hdc, decide_eq_false hc1] at this
                exact absurd this (by simp))
            clear hdc hc1
            go_wp2
            go_ret2
            rw [Hn.out]
            exact ⟨rfl, Below.refl _ _⟩
          have d48 : decide ((c : Int) < 48) = false := decide_eq_false (by omega)
          by_cases hc2 : c ≤ 57
          case neg =>
            have d57 : decide (57 < (c : Int)) = true := decide_eq_true (by omega)
            have Hn := Lib.hid (show dateP s = (0, false) by
              rw [Hp.out, if_pos]
              cases h : s.all digC with
              | false => rfl
              | true =>
                have := List.all_eq_true.1 h ch Hmem.out
                rw [hdc, decide_eq_false hc2] at this
                exact absurd this (by simp))
            clear hdc hc2
            go_wp2
            go_ret2
            rw [Hn.out]
            exact ⟨rfl, Below.refl _ _⟩
          have d57 : decide (57 < (c : Int)) = false := decide_eq_false (by omega)
          have Hdc := Lib.hid (show digC ch = true by rw [hdc, decide_eq_true hc1, decide_eq_true hc2]; rfl)
          clear hdc
          go_wp2
          go_round
          case rel => exact ⟨k + 1, by omega, by go_num, by rw [Hds.out]; go_num, by rw [Htk.out, List.all_append, Hr.out]; simp [Hdc.out]⟩
          case measure => simp [intOf]; omega
        · have hall : s.take k = s := List.take_of_length_le (by omega)
          rw [hall] at Hr hdb ⊢
          have Hn := Lib.hid (show dateP s = (digits s, decide (digits s ≤ 1000000000)) by rw [Hp.out, if_neg (by rw [Hr.out]; simp)])
          clear hall
          go_wp2
          go_ret2
          rw [Hn.out]
          exact ⟨rfl, Below.refl _ _⟩
end Go.Proofs.YtcbmdghnlbieeaaGreatDoor
