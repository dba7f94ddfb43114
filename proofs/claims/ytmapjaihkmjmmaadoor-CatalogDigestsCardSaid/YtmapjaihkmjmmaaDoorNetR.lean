/-
  Walks of the reference's layer 2: digits, Dec, String.
-/
import Derived.Test.YtmapjaihkmjmmaaDoorNet
namespace Go.Proofs.YtmapjaihkmjmmaaDoor
open Go.RowKit Go.Lib

def tenDigits : Bytes := [48, 49, 50, 51, 52, 53, 54, 55, 56, 57]
theorem tenDigits_at (u : Nat) (h : u < 10) : (tenDigits.drop u).take (u + 1 - u) = decDigits u := by
  rw [decDigits_one h]
  match u, h with
  | 0, _ => rfl
  | 1, _ => rfl
  | 2, _ => rfl
  | 3, _ => rfl
  | 4, _ => rfl
  | 5, _ => rfl
  | 6, _ => rfl
  | 7, _ => rfl
  | 8, _ => rfl
  | 9, _ => rfl

theorem decDigits_big {n : Nat} (h : ¬ n < 10) : decDigits n = decDigits (n / 10) ++ decDigits (n % 10) := by
  rw [decDigits_one (i := n % 10) (by omega), decDigits.eq_def n, dif_neg h]

set_option maxRecDepth 100000 in
set_option maxHeartbeats 400000 in
theorem ref02_digits (u : Nat) (hu : u < 18446744073709551616) : ∀ w : World, Calls Tryd.prog 58 #[.int .u64 u] w fun e w' => e = .returned (S (decDigits u)) ∧ Below w.heap.size w w' := by
  induction u using Nat.strongRecOn with
  | ind u ih =>
    intro w
    have hl1 : (decDigits u).length ≤ 20 := by rw [decDigits_length]; exact nDigits_le _ _ (by omega) (by omega)
    by_cases h : u < 10
    · have Ht := Lib.hid (tenDigits_at u h)
      clear ih hl1
      go_enter Tryd.func58, Tryd.ntmps58
      go_wp2
      go_ret
      exact ⟨ret_s (by have h := Ht.out; rwa [show u + 1 - u = 1 by omega] at h), Below.refl _ _⟩
    · have Hd := Lib.hid (decDigits_big h)
      have hi1 := ih (u / 10) (by omega) (by omega)
      have hi2 := ih (u % 10) (by omega) (by omega)
      have hl2 : (decDigits (u / 10)).length + (decDigits (u % 10)).length ≤ 20 := by rw [Hd.out, List.length_append] at hl1; exact hl1
      have Hi1 := Lib.hid hi1
      have Hi2 := Lib.hid hi2
      rw [show ((u / 10 : Nat) : Int) = (u : Int) / 10 by omega] at Hi1
      rw [show ((u % 10 : Nat) : Int) = (u : Int) % 10 by omega] at Hi2
      clear ih hi1 hi2 hl1
      go_enter Tryd.func58, Tryd.ntmps58
      go_wp2_with fail
      refine (Hi1.out _).mono ?_
      rintro e w1 ⟨rfl, hb1⟩
      go_wp2_with fail
      refine (Hi2.out _).mono ?_
      rintro e w2 ⟨rfl, hb2⟩
      go_wp2
      go_ret
      exact ⟨ret_s Hd.out.symm, hb1.trans (hb2.mono hb1.size)⟩

set_option maxRecDepth 100000 in
set_option maxHeartbeats 400000 in
theorem ref02_Dec (n : Nat) (hn : n ≤ 9223372036854775807) (w : World) : Calls Tryd.prog 45 #[.int .i64 n] w fun e w' => e = .returned (S (itoa n)) ∧ Below w.heap.size w w' := by
  have Hi := Lib.hid (show itoa (n : Int) = decDigits n by simp [itoa])
  have hw : IntKind.u64.wrap (n : Int) = n := IntWalk.u64_in _ (by omega)
  go_enter Tryd.func45, Tryd.ntmps45
  go_wp2_with fail
  refine (ref02_digits n (by omega) _).mono ?_
  rintro e w1 ⟨rfl, hb1⟩
  go_wp2
  go_ret
  exact ⟨ret_s Hi.out.symm, hb1⟩

set_option maxRecDepth 100000 in
set_option maxHeartbeats 400000 in
theorem ref02_String (s : Bytes) (hs : s.length ≤ 140737488355200) (w : World) :
    Calls Tryd.prog 32 #[S s] w fun e w' => e = .returned (S (netP s)) ∧ Below w.heap.size w w' := by
  have hil := itoa_len s.length (by omega)
  go_enter Tryd.func32, Tryd.ntmps32
  go_wp2_with fail
  refine (ref02_Dec _ (by omega) _).mono ?_
  rintro e w1 ⟨rfl, hb1⟩
  go_wp2
  go_ret
  exact ⟨ret_s (by simp [netP]), hb1⟩
end Go.Proofs.YtmapjaihkmjmmaaDoor
