/-
  Walks of the reference's layer 32: Key, Check, Get.
-/
import Derived.Test.YtcbmdghnlbieeaaGreatDoorAtA
namespace Go.Proofs.YtcbmdghnlbieeaaGreatDoor
open Go.RowKit

theorem keyChar_nat (c : UInt8) : keyChar c = (decide (97 ≤ c.toNat) && decide (c.toNat ≤ 122) || decide (48 ≤ c.toNat) && decide (c.toNat ≤ 57) || decide (c.toNat = 46) || decide (c.toNat = 95) || decide (c.toNat = 45)) := by
  have e : ∀ n : Nat, n < 256 → (c == UInt8.ofNat n) = decide (c.toNat = n) := fun n hn => by
    rw [Bool.eq_iff_iff, beq_iff_eq, decide_eq_true_iff]
    constructor
    · intro h; rw [h]; simp; omega
    · intro h
      have : c = UInt8.ofNat c.toNat := by simp
      rw [this, h]
  unfold keyChar
  rw [show (46 : UInt8) = UInt8.ofNat 46 from rfl, show (95 : UInt8) = UInt8.ofNat 95 from rfl, show (45 : UInt8) = UInt8.ofNat 45 from rfl, e 46 (by omega), e 95 (by omega), e 45 (by omega)]
  simp [UInt8.le_iff_toNat_le]

set_option maxRecDepth 100000 in
set_option maxHeartbeats 1000000 in
theorem ref32_Key (s : Bytes) (hs : s.length ≤ 9223372036854775807) (w : World) :
    Calls Tryz.prog 115 #[S s] w fun e w' => e = .returned (.bool (keyOk s)) ∧ Below w.heap.size w w' := by
  by_cases h1 : 1 ≤ s.length
  · have hd1 : decide (s.length < 1) = false := decide_eq_false (by omega)
    by_cases h32 : s.length ≤ 32
    · have hd2 : decide (32 < s.length) = false := by simp; omega
      have Hok := Lib.hid (show keyOk s = s.all keyChar by simp [keyOk, h1, h32])
      go_enter Tryz.func115, Tryz.ntmps115
      go_wp2_with fail
      go_loop [3] (fun s3 => ∃ k : Nat, k ≤ s.length ∧ s3 = .int .i64 k ∧ (s.take k).all keyChar = true) (fun i => s.length - (intOf i).toNat)
      case atStart => exact ⟨0, Nat.zero_le _, rfl, rfl⟩
      case round =>
        obtain ⟨k, hk, rfl, hr⟩ := hrel
        have Hr := Lib.hid hr; clear hr
        by_cases hlt : k < s.length
        · have hx := run_at Tryz.underlying9 s (k : Int) k rfl hlt
          have hkc := keyChar_nat (s.getD k 0)
          have Htk := Lib.hid (show s.take (k + 1) = s.take k ++ [s.getD k 0] by rw [List.take_succ_eq_append_getElem hlt]; simp [List.getD, hlt])
          have Hmem := Lib.hid (show s.getD k 0 ∈ s by simp [List.getD, hlt])
          have hc256 : (s.getD k 0).toNat < 256 := (s.getD k 0).toNat_lt
          generalize s.getD k 0 = ch at hkc Htk Hmem hx hc256
          generalize ch.toNat = c at hkc hx hc256
          rcases (show (97 ≤ c ∧ c ≤ 122) ∨ 122 < c ∨ (48 ≤ c ∧ c ≤ 57) ∨ c = 46 ∨ c = 95 ∨ c = 45 ∨ (c < 48 ∧ c ≠ 46 ∧ c ≠ 45) ∨ (57 < c ∧ c < 97 ∧ c ≠ 95) by omega) with hc | hc | hc | hc | hc | hc | hc | hc
          · have d97 : decide ((c : Int) < 97) = false := by simp; omega
            have d122 : decide (122 < (c : Int)) = false := by simp; omega
            have d48 : decide ((c : Int) < 48) = false := by simp; omega
            have d57 : decide (57 < (c : Int)) = true := by simp; omega
            have n46 : ((c : Int) != 46) = true := by simp; omega
            have n95 : ((c : Int) != 95) = true := by simp; omega
            have n45 : ((c : Int) != 45) = true := by simp; omega
            have Hkc := Lib.hid (show keyChar ch = true by rw [hkc]; simp; omega)
            clear hkc hc
            go_wp2
            go_round
            case rel => exact ⟨k + 1, by omega, by go_num, by rw [Htk.out, List.all_append, Hr.out]; simp [Hkc.out]⟩
            case measure => simp [intOf]; omega
          · have d97 : decide ((c : Int) < 97) = false := by simp; omega
            have d122 : decide (122 < (c : Int)) = true := by simp; omega
            have d48 : decide ((c : Int) < 48) = false := by simp; omega
            have d57 : decide (57 < (c : Int)) = true := by simp; omega
            have n46 : ((c : Int) != 46) = true := by simp; omega
            have n95 : ((c : Int) != 95) = true := by simp; omega
            have n45 : ((c : Int) != 45) = true := by simp; omega
            have Hkc := Lib.hid (show keyChar ch = false by rw [hkc]; simp; omega)
            have Hall := Lib.hid (show s.all keyChar = false by
              cases h : s.all keyChar with
              | false => rfl
              | true => rw [List.all_eq_true.1 h ch Hmem.out] at Hkc; exact absurd Hkc.out (by simp))
            clear hkc hc
            go_wp2
            go_ret
            exact ⟨ret_b (by rw [Hok.out, Hall.out]), Below.refl _ _⟩
          · have d97 : decide ((c : Int) < 97) = true := by simp; omega
            have d122 : decide (122 < (c : Int)) = false := by simp; omega
            have d48 : decide ((c : Int) < 48) = false := by simp; omega
            have d57 : decide (57 < (c : Int)) = false := by simp; omega
            have n46 : ((c : Int) != 46) = true := by simp; omega
            have n95 : ((c : Int) != 95) = true := by simp; omega
            have n45 : ((c : Int) != 45) = true := by simp; omega
            have Hkc := Lib.hid (show keyChar ch = true by rw [hkc]; simp; omega)
            clear hkc hc
            go_wp2
            go_round
            case rel => exact ⟨k + 1, by omega, by go_num, by rw [Htk.out, List.all_append, Hr.out]; simp [Hkc.out]⟩
            case measure => simp [intOf]; omega
          · have d97 : decide ((c : Int) < 97) = true := by simp; omega
            have d122 : decide (122 < (c : Int)) = false := by simp; omega
            have d48 : decide ((c : Int) < 48) = true := by simp; omega
            have d57 : decide (57 < (c : Int)) = false := by simp; omega
            have n46 : ((c : Int) != 46) = false := by simp; omega
            have n95 : ((c : Int) != 95) = true := by simp; omega
            have n45 : ((c : Int) != 45) = true := by simp; omega
            have Hkc := Lib.hid (show keyChar ch = true by rw [hkc]; simp; omega)
            clear hkc hc
            go_wp2
            go_round
            case rel => exact ⟨k + 1, by omega, by go_num, by rw [Htk.out, List.all_append, Hr.out]; simp [Hkc.out]⟩
            case measure => simp [intOf]; omega
          · have d97 : decide ((c : Int) < 97) = true := by simp; omega
            have d122 : decide (122 < (c : Int)) = false := by simp; omega
            have d48 : decide ((c : Int) < 48) = false := by simp; omega
            have d57 : decide (57 < (c : Int)) = true := by simp; omega
            have n46 : ((c : Int) != 46) = true := by simp; omega
            have n95 : ((c : Int) != 95) = false := by simp; omega
            have n45 : ((c : Int) != 45) = true := by simp; omega
            have Hkc := Lib.hid (show keyChar ch = true by rw [hkc]; simp; omega)
            clear hkc hc
            go_wp2
            go_round
            case rel => exact ⟨k + 1, by omega, by go_num, by rw [Htk.out, List.all_append, Hr.out]; simp [Hkc.out]⟩
            case measure => simp [intOf]; omega
          · have d97 : decide ((c : Int) < 97) = true := by simp; omega
            have d122 : decide (122 < (c : Int)) = false := by simp; omega
            have d48 : decide ((c : Int) < 48) = true := by simp; omega
            have d57 : decide (57 < (c : Int)) = false := by simp; omega
            have n46 : ((c : Int) != 46) = true := by simp; omega
            have n95 : ((c : Int) != 95) = true := by simp; omega
            have n45 : ((c : Int) != 45) = false := by simp; omega
            have Hkc := Lib.hid (show keyChar ch = true by rw [hkc]; simp; omega)
            clear hkc hc
            go_wp2
            go_round
            case rel => exact ⟨k + 1, by omega, by go_num, by rw [Htk.out, List.all_append, Hr.out]; simp [Hkc.out]⟩
            case measure => simp [intOf]; omega
          · have d97 : decide ((c : Int) < 97) = true := by simp; omega
            have d122 : decide (122 < (c : Int)) = false := by simp; omega
            have d48 : decide ((c : Int) < 48) = true := by simp; omega
            have d57 : decide (57 < (c : Int)) = false := by simp; omega
            have n46 : ((c : Int) != 46) = true := by simp; omega
            have n95 : ((c : Int) != 95) = true := by simp; omega
            have n45 : ((c : Int) != 45) = true := by simp; omega
            have Hkc := Lib.hid (show keyChar ch = false by rw [hkc]; simp; omega)
            have Hall := Lib.hid (show s.all keyChar = false by
              cases h : s.all keyChar with
              | false => rfl
              | true => rw [List.all_eq_true.1 h ch Hmem.out] at Hkc; exact absurd Hkc.out (by simp))
            clear hkc hc
            go_wp2
            go_ret
            exact ⟨ret_b (by rw [Hok.out, Hall.out]), Below.refl _ _⟩
          · have d97 : decide ((c : Int) < 97) = true := by simp; omega
            have d122 : decide (122 < (c : Int)) = false := by simp; omega
            have d48 : decide ((c : Int) < 48) = false := by simp; omega
            have d57 : decide (57 < (c : Int)) = true := by simp; omega
            have n46 : ((c : Int) != 46) = true := by simp; omega
            have n95 : ((c : Int) != 95) = true := by simp; omega
            have n45 : ((c : Int) != 45) = true := by simp; omega
            have Hkc := Lib.hid (show keyChar ch = false by rw [hkc]; simp; omega)
            have Hall := Lib.hid (show s.all keyChar = false by
              cases h : s.all keyChar with
              | false => rfl
              | true => rw [List.all_eq_true.1 h ch Hmem.out] at Hkc; exact absurd Hkc.out (by simp))
            clear hkc hc
            go_wp2
            go_ret
            exact ⟨ret_b (by rw [Hok.out, Hall.out]), Below.refl _ _⟩
        · have hall : s.take k = s := List.take_of_length_le (by omega)
          rw [hall] at Hr
          clear hall
          go_wp2
          go_ret
          exact ⟨ret_b (by rw [Hok.out, Hr.out]), Below.refl _ _⟩
    · have hd2 : decide (32 < s.length) = true := by simp; omega
      have Hok := Lib.hid (show keyOk s = false by simp [keyOk, h32])
      go_enter Tryz.func115, Tryz.ntmps115
      go_wp2
      go_ret
      exact ⟨ret_b Hok.out.symm, Below.refl _ _⟩
  · have hd1 : decide (s.length < 1) = true := decide_eq_true (by omega)
    have Hok := Lib.hid (show keyOk s = false by simp [keyOk, h1])
    go_enter Tryz.func115, Tryz.ntmps115
    go_wp2
    go_ret
    exact ⟨ret_b Hok.out.symm, Below.refl _ _⟩
end Go.Proofs.YtcbmdghnlbieeaaGreatDoor
