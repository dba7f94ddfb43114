/-
  Plain laws of dates: what strconv's Atoi and Itoa say of a date. No program.
-/
import Derived.Test.YtcbmdghnlbieeaaGreatDoorEnA
import Derived.Lib.AtoiAll
import Derived.Lib.ItoaNum
namespace Go.Proofs.YtcbmdghnlbieeaaGreatDoor

def digN (acc : Nat) (l : Bytes) : Nat := l.foldl (fun n c => 10 * n + (c.toNat - 48)) acc
theorem digN_snoc (acc : Nat) (l : Bytes) (c : UInt8) : digN acc (l ++ [c]) = 10 * digN acc l + (c.toNat - 48) := by simp [digN, List.foldl_append]
theorem digC_bd {c : UInt8} (h : digC c = true) : 48 ≤ c.toNat ∧ c.toNat ≤ 57 := by
  rw [digC_nat, Bool.and_eq_true, decide_eq_true_iff, decide_eq_true_iff] at h
  exact h
theorem digits_digN : ∀ (l : Bytes), l.all digC = true → ∀ (a : Nat), l.foldl (fun (n : Int) c => 10 * n + ((c.toNat : Int) - 48)) (a : Int) = (digN a l : Nat)
  | [], _, _ => rfl
  | c :: l, h, a => by
    rw [List.all_cons, Bool.and_eq_true] at h
    have hc := digC_bd h.1
    have := digits_digN l h.2 (10 * a + (c.toNat - 48))
    rw [List.foldl_cons, show (10 * (a : Int) + ((c.toNat : Int) - 48)) = ((10 * a + (c.toNat - 48) : Nat) : Int) by omega, this]
    rfl
theorem digits_nat {l : Bytes} (h : l.all digC = true) : digits l = (digN 0 l : Nat) := digits_digN l h 0

theorem parse_ok : ∀ (l : Bytes) (acc : Nat), l.all digC = true → (acc + 1) * 10 ^ l.length ≤ 100000000000 → Lib.parseUint10 acc l = .ok (digN acc l)
  | [], _, _, _ => rfl
  | c :: l, acc, h, hb => by
    rw [List.all_cons, Bool.and_eq_true] at h
    have hc := digC_bd h.1
    rw [List.length_cons, Nat.pow_succ] at hb
    have h10 : 1 ≤ 10 ^ l.length := Nat.pos_of_ne_zero (by simp)
    have hacc : (acc + 1) * 10 ≤ 100000000000 := by
      have : (acc + 1) * 10 * 1 ≤ (acc + 1) * 10 * 10 ^ l.length := Nat.mul_le_mul_left _ h10
      rw [Nat.mul_comm (10 ^ l.length) 10, ← Nat.mul_assoc] at hb
      omega
    have hn : (acc * 10 + (c.toNat - 48) + 1) * 10 ^ l.length ≤ 100000000000 := by
      refine Nat.le_trans (Nat.mul_le_mul_right _ (show acc * 10 + (c.toNat - 48) + 1 ≤ (acc + 1) * 10 by omega)) ?_
      rw [Nat.mul_assoc, Nat.mul_comm 10 (10 ^ l.length)]
      exact hb
    rw [Lib.parseUint10, if_pos hc, if_neg (by omega), if_neg (by omega), parse_ok l _ h.2 hn]
    show Lib.NumEnd.ok (digN _ l) = Lib.NumEnd.ok (digN (10 * acc + (c.toNat - 48)) l)
    rw [Nat.mul_comm acc 10]

theorem dig_head {c : UInt8} {l : Bytes} (h : (c :: l).all digC = true) (hc : c ≠ 48) : 10 ^ l.length ≤ digN 0 (c :: l) := by
  have key : ∀ (n : Nat) (l : Bytes), l.length = n → ∀ a, a * 10 ^ n ≤ digN a l := by
    intro n
    induction n with
    | zero => intro l h a; rw [List.eq_nil_of_length_eq_zero h]; simp [digN]
    | succ n ih =>
      intro l h a
      cases l with
      | nil => simp at h
      | cons c l =>
        have := ih l (by simpa using h) (10 * a + (c.toNat - 48))
        refine Nat.le_trans ?_ this
        rw [Nat.pow_succ, Nat.mul_comm (10 ^ n) 10, ← Nat.mul_assoc]
        exact Nat.mul_le_mul_right _ (by omega)
  rw [List.all_cons, Bool.and_eq_true] at h
  have hb := digC_bd h.1
  have hne : c.toNat ≠ 48 := fun e => hc (by
    have : c = UInt8.ofNat c.toNat := by simp
    rw [this, e]; rfl)
  have := key l.length l rfl (10 * 0 + (c.toNat - 48))
  refine Nat.le_trans ?_ this
  have h1 : 1 ≤ 10 * 0 + (c.toNat - 48) := by omega
  simpa using Nat.mul_le_mul_right (10 ^ l.length) h1

/-- Without a leading zero. -/
def NoZ (s : Bytes) : Prop := s.length = 1 ∨ s.head? ≠ some 48

theorem dec_digN : ∀ (n : Nat) (s : Bytes), s.length = n → s ≠ [] → s.all digC = true → NoZ s → Lib.decDigits (digN 0 s) = s := by
  intro n
  induction n with
  | zero => intro s h h0; exact absurd (List.eq_nil_of_length_eq_zero h) h0
  | succ n ih =>
    intro s h h0 ha hz
    have e : s = s.dropLast ++ [s.getLast h0] := (List.dropLast_concat_getLast h0).symm
    have hl : s.dropLast.length = n := by rw [List.length_dropLast, h]; omega
    have ha2 := ha
    rw [e, List.all_append, Bool.and_eq_true] at ha2
    have hc : digC (s.getLast h0) = true := by simpa using ha2.2
    have hb := digC_bd hc
    have hoc : UInt8.ofNat (48 + ((s.getLast h0).toNat - 48)) = s.getLast h0 := by
      rw [show 48 + ((s.getLast h0).toNat - 48) = (s.getLast h0).toNat by omega]; simp
    by_cases hn : n = 0
    · have ht : s.dropLast = [] := List.eq_nil_of_length_eq_zero (by omega)
      rw [e, ht, List.nil_append]
      have : digN 0 [s.getLast h0] = (s.getLast h0).toNat - 48 := by simp [digN]
      rw [this, Lib.decDigits, dif_pos (by omega), hoc]
    · have ht0 : s.dropLast ≠ [] := by intro e2; rw [e2] at hl; simp at hl; omega
      have hh : s.head? ≠ some 48 := by
        rcases hz with hz | hz
        · omega
        · exact hz
      have hhd : s.dropLast.head? = s.head? := by
        cases hd : s.dropLast with
        | nil => exact absurd hd ht0
        | cons a t => rw [e, hd]; rfl
      have i1 := ih s.dropLast hl ht0 ha2.1 (.inr (by rw [hhd]; exact hh))
      have hge : 1 ≤ digN 0 s.dropLast := by
        cases hd : s.dropLast with
        | nil => exact absurd hd ht0
        | cons a t =>
          have ha3 : (a :: t).all digC = true := by rw [← hd]; exact ha2.1
          have : 10 ^ t.length ≤ digN 0 (a :: t) := dig_head ha3 (fun e3 => hh (by rw [← hhd, hd, e3]; rfl))
          have h10 : 1 ≤ 10 ^ t.length := Nat.pos_of_ne_zero (by simp)
          omega
      have hs : digN 0 s = 10 * digN 0 s.dropLast + ((s.getLast h0).toNat - 48) := by
        conv => lhs; rw [e]
        exact digN_snoc _ _ _
      rw [hs, Lib.decDigits, dif_neg (by omega), show (10 * digN 0 s.dropLast + ((s.getLast h0).toNat - 48)) / 10 = digN 0 s.dropLast by omega, show (10 * digN 0 s.dropLast + ((s.getLast h0).toNat - 48)) % 10 = (s.getLast h0).toNat - 48 by omega, i1, hoc]
      exact e.symm

theorem digC_of {n : Nat} (h : n < 10) : digC (UInt8.ofNat (48 + n)) = true := by
  rw [digC_nat]
  simp
  omega
theorem dec_facts : ∀ (u : Nat), (Lib.decDigits u).all digC = true ∧ Lib.decDigits u ≠ [] ∧ digN 0 (Lib.decDigits u) = u ∧ (10 ≤ u → (Lib.decDigits u).head? ≠ some 48) ∧ (1 ≤ u → (Lib.decDigits u).head? ≠ some 48) := by
  intro u
  induction u using Nat.strongRecOn with
  | _ u ih =>
    by_cases h : u < 10
    · have e : Lib.decDigits u = [UInt8.ofNat (48 + u)] := by rw [Lib.decDigits, dif_pos h]
      have hd := digC_of h
      have ht : (UInt8.ofNat (48 + u)).toNat = 48 + u := by simp; omega
      rw [e]
      refine ⟨by rw [List.all_cons, hd]; rfl, by simp, by simp only [digN, List.foldl_cons, List.foldl_nil, ht]; omega, fun h2 => by omega, fun h2 he => ?_⟩
      simp only [List.head?_cons, Option.some.injEq] at he
      have := congrArg UInt8.toNat he
      rw [ht] at this
      have h48 : (48 : UInt8).toNat = 48 := rfl
      omega
    · have e : Lib.decDigits u = Lib.decDigits (u / 10) ++ [UInt8.ofNat (48 + u % 10)] := by rw [Lib.decDigits, dif_neg h]
      obtain ⟨i1, i2, i3, i4, i5⟩ := ih (u / 10) (by omega)
      have hd := digC_of (n := u % 10) (by omega)
      have ht : (UInt8.ofNat (48 + u % 10)).toNat = 48 + u % 10 := by simp; omega
      have hhd : (Lib.decDigits u).head? ≠ some 48 := by
        rw [e]
        cases hc : Lib.decDigits (u / 10) with
        | nil => exact absurd hc i2
        | cons a t =>
          have := i5 (by omega)
          rw [hc] at this
          exact this
      refine ⟨?_, ?_, ?_, fun _ => hhd, fun _ => hhd⟩
      · rw [e, List.all_append, i1, List.all_cons, hd]; rfl
      · rw [e]; simp
      · rw [e, digN_snoc, i3, ht]; omega

theorem date_iff (s : Bytes) : dateOk s = true ↔ ∃ n : Int, Lib.atoiAll s = .ok n ∧ 0 ≤ n ∧ n ≤ 1000000000 ∧ Lib.itoa n = s := by
  have hd : (fun c : UInt8 => decide (48 ≤ c) && decide (c ≤ 57)) = digC := rfl
  constructor
  · intro h
    unfold dateOk at h
    rw [hd] at h
    simp only [Bool.and_eq_true, decide_eq_true_eq] at h
    obtain ⟨⟨⟨⟨h1, h2⟩, h3⟩, h4⟩, h5⟩ := h
    have h0 : s ≠ [] := by intro e; rw [e] at h1; simp at h1
    have hz : NoZ s := by
      by_cases hl : s.length = 1
      · exact .inl hl
      · right
        intro e
        rw [e, decide_eq_true (show 1 < s.length by omega)] at h3
        simp at h3
    rw [digits_nat h4] at h5
    refine ⟨(digN 0 s : Nat), ?_, by omega, h5, ?_⟩
    · cases hs : s with
      | nil => exact absurd hs h0
      | cons c r =>
        have ha : (c :: r).all digC = true := by rw [← hs]; exact h4
        have hc : digC c = true := by rw [List.all_cons, Bool.and_eq_true] at ha; exact ha.1
        have hb := digC_bd hc
        have hlen : (c :: r).length ≤ 10 := by rw [← hs]; exact h2
        have hp := parse_ok (c :: r) 0 ha (by
          have : 10 ^ (c :: r).length ≤ 10 ^ 10 := Nat.pow_le_pow_right (by decide) hlen
          omega)
        rw [Lib.atoiAll]
        rw [if_neg (by omega), Lib.parseMag, if_neg (by simp), hp]
        rw [hs] at h5
        simp only
        rw [if_neg (by omega), if_neg (by omega), if_neg (by omega)]
    · rw [Lib.itoa, if_neg (by omega), Int.toNat_natCast]
      exact dec_digN _ s rfl h0 h4 hz
  · rintro ⟨n, _, h0, h1, h2⟩
    obtain ⟨u, rfl⟩ := Int.eq_ofNat_of_zero_le h0
    rw [Lib.itoa, if_neg (by omega), Int.toNat_natCast] at h2
    obtain ⟨f1, f2, f3, f4, f5⟩ := dec_facts u
    rw [h2] at f1 f2 f3 f4 f5
    have hdg : digits s = u := by rw [digits_nat f1, f3]
    unfold dateOk
    rw [hd, f1, hdg, decide_eq_true h1]
    have hl1 : 1 ≤ s.length := List.length_pos_iff.2 f2
    have hz : (decide (1 < s.length) && s.head? == some 48) = false := by
      cases hb : (decide (1 < s.length) && s.head? == some 48) with
      | false => rfl
      | true =>
        rw [Bool.and_eq_true, decide_eq_true_iff, beq_iff_eq] at hb
        by_cases hu : 1 ≤ u
        · exact absurd hb.2 (f5 hu)
        · have : u = 0 := by omega
          subst this
          have : s = [48] := by rw [← h2, Lib.decDigits, dif_pos (by decide)]; rfl
          rw [this] at hb
          simp at hb
    have hl10 : s.length ≤ 10 := by
      cases hs : s with
      | nil => simp
      | cons c r =>
        by_cases hu : 1 ≤ u
        · have hc : c ≠ 48 := fun e => f5 hu (by rw [hs, e]; rfl)
          have := dig_head (c := c) (l := r) (by rw [← hs]; exact f1) hc
          rw [← hs, f3] at this
          have hlt : ¬ 10 ≤ r.length := by
            intro h10
            have : 10 ^ 10 ≤ 10 ^ r.length := Nat.pow_le_pow_right (by decide) h10
            omega
          simp only [List.length_cons]; omega
        · have : u = 0 := by omega
          subst this
          have : s = [48] := by rw [← h2, Lib.decDigits, dif_pos (by decide)]; rfl
          rw [hs] at this
          rw [this]; simp
    rw [hz, decide_eq_true hl1, decide_eq_true hl10]
    rfl
end Go.Proofs.YtcbmdghnlbieeaaGreatDoor
