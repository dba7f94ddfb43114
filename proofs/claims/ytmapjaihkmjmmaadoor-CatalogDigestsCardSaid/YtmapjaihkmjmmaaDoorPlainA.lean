/-
  Plain laws on decimal numerals with zeros in front. No program.
-/
import Derived.Test.YtmapjaihkmjmmaaDoorBase
import Derived.Lib.ItoaNum
import Derived.Lib.Repeat
namespace Go.Proofs.YtmapjaihkmjmmaaDoor
open Go.Lib

/-- The reference's digits: the last w decimal digits. -/
def refDigits : Nat → Nat → Bytes → Bytes
  | 0, _, s => s
  | w + 1, n, s => refDigits w (n / 10) ((48 + UInt8.ofNat (n % 10)) :: s)

theorem repeatL_one (c : UInt8) : ∀ n, repeatL [c] n = List.replicate n c
  | 0 => rfl
  | n + 1 => by rw [repeatL, repeatL_one c n, List.replicate_succ]; rfl

theorem refDigits_zero : ∀ (w : Nat) (s : Bytes), refDigits w 0 s = List.replicate w 48 ++ s
  | 0, _ => rfl
  | w + 1, s => by
    rw [refDigits, Nat.zero_div, refDigits_zero w, List.replicate_succ', List.append_assoc]
    rfl

theorem digit_eq (n : Nat) : (48 : UInt8) + UInt8.ofNat n = UInt8.ofNat (48 + n) := by
  rw [UInt8.ofNat_add]; rfl

theorem refDigits_eq : ∀ (w n : Nat) (s : Bytes), n < 10 ^ w → 1 ≤ w → refDigits w n s = List.replicate (w - nDigits n) 48 ++ decDigits n ++ s
  | 0, _, _, _, h => by omega
  | w + 1, n, s, hn, _ => by
    rw [refDigits, digit_eq]
    by_cases h : n < 10
    · rw [show n / 10 = 0 by omega, refDigits_zero, nDigits_small h, decDigits_one h, show n % 10 = n by omega]
      simp
    · rw [Nat.pow_succ] at hn
      have hw : 1 ≤ w := by
        rcases Nat.eq_zero_or_pos w with h0 | h0
        · subst h0; simp at hn; omega
        · exact h0
      rw [refDigits_eq w (n / 10) _ (by omega) hw, nDigits_big h]
      rw [decDigits.eq_def n, dif_neg h]
      simp

theorem refDigits_length : ∀ (w n : Nat) (s : Bytes), (refDigits w n s).length = w + s.length
  | 0, _, _ => by simp [refDigits]
  | w + 1, n, s => by rw [refDigits, refDigits_length w]; simp; omega

/-- Zeros in front up to a width. -/
theorem padded_eq (n w : Nat) (hn : n < 10 ^ w) (hw : 1 ≤ w) : repeatL [48] (w - (decDigits n).length) ++ decDigits n = refDigits w n [] := by
  rw [refDigits_eq w n [] hn hw, repeatL_one, decDigits_length, List.append_nil]

theorem nDigits_le (n w : Nat) (hn : n < 10 ^ w) (hw : 1 ≤ w) : nDigits n ≤ w := by
  induction w generalizing n with
  | zero => omega
  | succ w ih =>
    by_cases h : n < 10
    · rw [nDigits_small h]; omega
    · rw [nDigits_big h]
      rw [Nat.pow_succ] at hn
      rcases Nat.eq_zero_or_pos w with h0 | h0
      · subst h0; simp at hn; omega
      · have := ih (n / 10) (by omega) h0; omega
end Go.Proofs.YtmapjaihkmjmmaaDoor
