/-
  Walks of the reference's layer 31: Component, path.
-/
import Derived.Test.YtcbmdghnlbieeaaGreatDoorPaA
namespace Go.Proofs.YtcbmdghnlbieeaaGreatDoor
open Go.RowKit

theorem keyChar_nat2 (c : UInt8) : keyChar c = (decide (97 ≤ c.toNat) && decide (c.toNat ≤ 122) || decide (48 ≤ c.toNat) && decide (c.toNat ≤ 57) || decide (c.toNat = 46) || decide (c.toNat = 95) || decide (c.toNat = 45)) := by
  rw [keyChar_not, notAllowed, Bool.not_not]

set_option maxRecDepth 100000 in
set_option maxHeartbeats 1000000 in
theorem ref31_Component (s : Bytes) (hs : s.length ≤ 9223372036854775807) (w : World) :
    Calls Tryz.prog 88 #[S s] w fun e w' => e = .returned (.bool (comp s)) ∧ Below w.heap.size w w' := by
  by_cases h1 : 1 ≤ s.length
  case neg =>
    have hd1 : decide (0 < s.length) = false := decide_eq_false (by omega)
    have Hok := Lib.hid (show comp s = false by simp [comp, h1])
    go_enter Tryz.func88, Tryz.ntmps88
    go_wp2_with fail
    go_loop [3, 4] (fun s3 s4 => s3 = .bool false ∧ s4 = .int .i64 0) (fun _ _ => 0)
    case atStart => exact ⟨rfl, rfl⟩
    case round =>
      obtain ⟨rfl, rfl⟩ := hrel
      go_wp2
      go_ret
      exact ⟨ret_b Hok.out.symm, Below.refl _ _⟩
  have hd1 : decide (0 < s.length) = true := decide_eq_true (by omega)
  by_cases h32 : s.length ≤ 32
  case neg =>
    have hd2 : decide (s.length ≤ 32) = false := decide_eq_false h32
    have Hok := Lib.hid (show comp s = false by simp [comp, h32])
    go_enter Tryz.func88, Tryz.ntmps88
    go_wp2_with fail
    go_loop [3, 4] (fun s3 s4 => s3 = .bool false ∧ s4 = .int .i64 0) (fun _ _ => 0)
    case atStart => exact ⟨rfl, rfl⟩
    case round =>
      obtain ⟨rfl, rfl⟩ := hrel
      go_wp2
      go_ret
      exact ⟨ret_b Hok.out.symm, Below.refl _ _⟩
  have hd2 : decide (s.length ≤ 32) = true := decide_eq_true h32
  by_cases h46 : s = [46]
  case pos =>
    subst h46
    have Hok := Lib.hid (show comp [46] = false by rfl)
    clear hs h1 hd1 h32 hd2
    go_enter Tryz.func88, Tryz.ntmps88
    go_wp2_with fail
    go_loop [3, 4] (fun s3 s4 => s3 = .bool false ∧ s4 = .int .i64 0) (fun _ _ => 0)
    case atStart => exact ⟨rfl, rfl⟩
    case round =>
      obtain ⟨rfl, rfl⟩ := hrel
      go_wp2
      go_ret
      exact ⟨ret_b Hok.out.symm, Below.refl _ _⟩
  have f46 : (s != [46]) = true := by simpa using h46
  have g46 : (s == [46]) = false := by simpa using h46
  by_cases h47 : s = [46, 46]
  case pos =>
    subst h47
    have Hok := Lib.hid (show comp [46, 46] = false by rfl)
    clear hs h1 hd1 h32 hd2 h46 f46 g46
    go_enter Tryz.func88, Tryz.ntmps88
    go_wp2_with fail
    go_loop [3, 4] (fun s3 s4 => s3 = .bool false ∧ s4 = .int .i64 0) (fun _ _ => 0)
    case atStart => exact ⟨rfl, rfl⟩
    case round =>
      obtain ⟨rfl, rfl⟩ := hrel
      go_wp2
      go_ret
      exact ⟨ret_b Hok.out.symm, Below.refl _ _⟩
  have f47 : (s != [46, 46]) = true := by simpa using h47
  have g47 : (s == [46, 46]) = false := by simpa using h47
  have Hok := Lib.hid (show comp s = s.all keyChar by simp [comp, h1, h32, f46, f47])
  clear h46 h47
  go_enter Tryz.func88, Tryz.ntmps88
  go_wp2_with fail
  go_loop [3, 4] (fun s3 s4 => ∃ (k : Nat) (b : Bool), k ≤ s.length ∧ s4 = .int .i64 k ∧ s3 = .bool b ∧ (s.take k).all keyChar = b) (fun _ i => s.length - (intOf i).toNat)
  case atStart => exact ⟨0, true, Nat.zero_le _, rfl, rfl, rfl⟩
  case round =>
    obtain ⟨k, b, hk, rfl, rfl, hr⟩ := hrel
    have Hr := Lib.hid hr; clear hr
    cases b
    · have Hall := Lib.hid (show s.all keyChar = false by
        cases h : s.all keyChar with
        | false => rfl
        | true =>
          have : (s.take k).all keyChar = true := List.all_eq_true.2 fun x hx => List.all_eq_true.1 h x (List.mem_of_mem_take hx)
          rw [Hr.out] at this
          exact absurd this (by simp))
      go_wp2
      go_ret
      exact ⟨ret_b (by rw [Hok.out, Hall.out]), Below.refl _ _⟩
    · by_cases hlt : k < s.length
      · have hx := run_at Tryz.underlying9 s (k : Int) k rfl hlt
        have hkc := keyChar_nat2 (s.getD k 0)
        have Htk := Lib.hid (show s.take (k + 1) = s.take k ++ [s.getD k 0] by rw [List.take_succ_eq_append_getElem hlt]; simp [List.getD, hlt])
        have hc256 : (s.getD k 0).toNat < 256 := (s.getD k 0).toNat_lt
        generalize s.getD k 0 = ch at hkc Htk hx hc256
        generalize ch.toNat = c at hkc hx hc256
        rcases (show (97 ≤ c ∧ c ≤ 122) ∨ 122 < c ∨ (48 ≤ c ∧ c ≤ 57) ∨ c = 46 ∨ c = 95 ∨ c = 45 ∨ (c < 48 ∧ c ≠ 46 ∧ c ≠ 45) ∨ (57 < c ∧ c < 97 ∧ c ≠ 95) by omega) with hc | hc | hc | hc | hc | hc | hc | hc
        · have d97 : decide (97 ≤ (c : Int)) = true := by simp; omega
          have d122 : decide ((c : Int) ≤ 122) = true := by simp; omega
          have d48 : decide (48 ≤ (c : Int)) = true := by simp; omega
          have d57 : decide ((c : Int) ≤ 57) = false := by simp; omega
          have n46 : ((c : Int) == 46) = false := by simp; omega
          have n95 : ((c : Int) == 95) = false := by simp; omega
          have n45 : ((c : Int) == 45) = false := by simp; omega
          have Hkc := Lib.hid (show keyChar ch = true by rw [hkc]; simp; omega)
          clear hkc hc
          go_wp2
          go_round
          case rel => exact ⟨k + 1, true, by omega, by go_num, rfl, by rw [Htk.out, List.all_append, Hr.out]; simp [Hkc.out]⟩
          case measure => simp [intOf]; omega
        · have d97 : decide (97 ≤ (c : Int)) = true := by simp; omega
          have d122 : decide ((c : Int) ≤ 122) = false := by simp; omega
          have d48 : decide (48 ≤ (c : Int)) = true := by simp; omega
          have d57 : decide ((c : Int) ≤ 57) = false := by simp; omega
          have n46 : ((c : Int) == 46) = false := by simp; omega
          have n95 : ((c : Int) == 95) = false := by simp; omega
          have n45 : ((c : Int) == 45) = false := by simp; omega
          have Hkc := Lib.hid (show keyChar ch = false by rw [hkc]; simp; omega)
          clear hkc hc
          go_wp2
          go_round
          case rel => exact ⟨k + 1, false, by omega, by go_num, rfl, by rw [Htk.out, List.all_append, Hr.out]; simp [Hkc.out]⟩
          case measure => simp [intOf]; omega
        · have d97 : decide (97 ≤ (c : Int)) = false := by simp; omega
          have d122 : decide ((c : Int) ≤ 122) = true := by simp; omega
          have d48 : decide (48 ≤ (c : Int)) = true := by simp; omega
          have d57 : decide ((c : Int) ≤ 57) = true := by simp; omega
          have n46 : ((c : Int) == 46) = false := by simp; omega
          have n95 : ((c : Int) == 95) = false := by simp; omega
          have n45 : ((c : Int) == 45) = false := by simp; omega
          have Hkc := Lib.hid (show keyChar ch = true by rw [hkc]; simp; omega)
          clear hkc hc
          go_wp2
          go_round
          case rel => exact ⟨k + 1, true, by omega, by go_num, rfl, by rw [Htk.out, List.all_append, Hr.out]; simp [Hkc.out]⟩
          case measure => simp [intOf]; omega
        · have d97 : decide (97 ≤ (c : Int)) = false := by simp; omega
          have d122 : decide ((c : Int) ≤ 122) = true := by simp; omega
          have d48 : decide (48 ≤ (c : Int)) = false := by simp; omega
          have d57 : decide ((c : Int) ≤ 57) = true := by simp; omega
          have n46 : ((c : Int) == 46) = true := by simp; omega
          have n95 : ((c : Int) == 95) = false := by simp; omega
          have n45 : ((c : Int) == 45) = false := by simp; omega
          have Hkc := Lib.hid (show keyChar ch = true by rw [hkc]; simp; omega)
          clear hkc hc
          go_wp2
          go_round
          case rel => exact ⟨k + 1, true, by omega, by go_num, rfl, by rw [Htk.out, List.all_append, Hr.out]; simp [Hkc.out]⟩
          case measure => simp [intOf]; omega
        · have d97 : decide (97 ≤ (c : Int)) = false := by simp; omega
          have d122 : decide ((c : Int) ≤ 122) = true := by simp; omega
          have d48 : decide (48 ≤ (c : Int)) = true := by simp; omega
          have d57 : decide ((c : Int) ≤ 57) = false := by simp; omega
          have n46 : ((c : Int) == 46) = false := by simp; omega
          have n95 : ((c : Int) == 95) = true := by simp; omega
          have n45 : ((c : Int) == 45) = false := by simp; omega
          have Hkc := Lib.hid (show keyChar ch = true by rw [hkc]; simp; omega)
          clear hkc hc
          go_wp2
          go_round
          case rel => exact ⟨k + 1, true, by omega, by go_num, rfl, by rw [Htk.out, List.all_append, Hr.out]; simp [Hkc.out]⟩
          case measure => simp [intOf]; omega
        · have d97 : decide (97 ≤ (c : Int)) = false := by simp; omega
          have d122 : decide ((c : Int) ≤ 122) = true := by simp; omega
          have d48 : decide (48 ≤ (c : Int)) = false := by simp; omega
          have d57 : decide ((c : Int) ≤ 57) = true := by simp; omega
          have n46 : ((c : Int) == 46) = false := by simp; omega
          have n95 : ((c : Int) == 95) = false := by simp; omega
          have n45 : ((c : Int) == 45) = true := by simp; omega
          have Hkc := Lib.hid (show keyChar ch = true by rw [hkc]; simp; omega)
          clear hkc hc
          go_wp2
          go_round
          case rel => exact ⟨k + 1, true, by omega, by go_num, rfl, by rw [Htk.out, List.all_append, Hr.out]; simp [Hkc.out]⟩
          case measure => simp [intOf]; omega
        · have d97 : decide (97 ≤ (c : Int)) = false := by simp; omega
          have d122 : decide ((c : Int) ≤ 122) = true := by simp; omega
          have d48 : decide (48 ≤ (c : Int)) = false := by simp; omega
          have d57 : decide ((c : Int) ≤ 57) = true := by simp; omega
          have n46 : ((c : Int) == 46) = false := by simp; omega
          have n95 : ((c : Int) == 95) = false := by simp; omega
          have n45 : ((c : Int) == 45) = false := by simp; omega
          have Hkc := Lib.hid (show keyChar ch = false by rw [hkc]; simp; omega)
          clear hkc hc
          go_wp2
          go_round
          case rel => exact ⟨k + 1, false, by omega, by go_num, rfl, by rw [Htk.out, List.all_append, Hr.out]; simp [Hkc.out]⟩
          case measure => simp [intOf]; omega
        · have d97 : decide (97 ≤ (c : Int)) = false := by simp; omega
          have d122 : decide ((c : Int) ≤ 122) = true := by simp; omega
          have d48 : decide (48 ≤ (c : Int)) = true := by simp; omega
          have d57 : decide ((c : Int) ≤ 57) = false := by simp; omega
          have n46 : ((c : Int) == 46) = false := by simp; omega
          have n95 : ((c : Int) == 95) = false := by simp; omega
          have n45 : ((c : Int) == 45) = false := by simp; omega
          have Hkc := Lib.hid (show keyChar ch = false by rw [hkc]; simp; omega)
          clear hkc hc
          go_wp2
          go_round
          case rel => exact ⟨k + 1, false, by omega, by go_num, rfl, by rw [Htk.out, List.all_append, Hr.out]; simp [Hkc.out]⟩
          case measure => simp [intOf]; omega
      · have hall : s.take k = s := List.take_of_length_le (by omega)
        rw [hall] at Hr
        clear hall
        go_wp2
        go_ret
        exact ⟨ret_b (by rw [Hok.out, Hr.out]), Below.refl _ _⟩

theorem joinP_snoc {l : List Bytes} (q : Bytes) (h : l ≠ []) : joinP (l ++ [q]) = joinP l ++ 47 :: q := by
  induction l with
  | nil => exact absurd rfl h
  | cons p l ih =>
    cases l with
    | nil => rfl
    | cons r l =>
      rw [List.cons_append, joinP_cons p (by simp), joinP_cons p (by simp), ih (by simp)]
      simp

theorem joinP_append_le : ∀ (a b : List Bytes), (joinP a).length ≤ (joinP (a ++ b)).length
  | [], _ => Nat.zero_le _
  | [p], [] => Nat.le_refl _
  | [p], q :: b => by
    rw [List.singleton_append, show joinP [p] = p from rfl, joinP_cons p (show q :: b ≠ [] by simp)]
    simp
  | p :: q :: a, b => by
    have := joinP_append_le (q :: a) b
    rw [List.cons_append, joinP_cons p (by simp), joinP_cons p (by simp)]
    simp only [List.length_append, List.length_cons]
    omega
theorem joinP_take_le (l : List Bytes) (k : Nat) : (joinP (l.take k)).length ≤ (joinP l).length := by
  conv => rhs; rw [← List.take_append_drop k l]
  exact joinP_append_le _ _

set_option maxRecDepth 100000 in
set_option maxHeartbeats 400000 in
theorem ref31_path (I : IH) (v : Value) (l : List Bytes) (hv : RdS tStr I v l) (hj : (joinP l).length ≤ 4294967296) (w : World) (hw : Ok I w) :
    Calls Tryz.prog 87 #[v] w fun e w' => e = .returned (S (joinP l)) ∧ Below w.heap.size w w' := by
  have hlen := hv.len_le
  obtain ⟨ao, cap, rfl, hcap, hcm, _⟩ := id hv
  have Hv := Lib.hid hv; clear hv
  have Hj := Lib.hid hj
  go_enter Tryz.func87, Tryz.ntmps87
  go_wp2_with fail
  go_loopw [3, 4] (fun s3 s4 wr => ∃ (k : Nat) (p : Bytes), k ≤ l.length ∧ s4 = .int .i64 k ∧ s3 = S p ∧ joinP (l.take k) = p ∧ Below w.heap.size w wr) (fun _ i _ => l.length - (intOf i).toNat)
  case atStart => exact ⟨0, [], Nat.zero_le _, rfl, rfl, rfl, Below.refl _ _⟩
  case round =>
    obtain ⟨k, p, hk, rfl, rfl, hr, hb⟩ := hrel
    have Hr := Lib.hid hr; clear hr
    have hwr : Ok I wr := hw.below (Nat.le_refl _) hb
    by_cases hlt : k < l.length
    · obtain ⟨q, b, off, cap', hlq, hvv, hc⟩ := strAt Hv.out hwr k hlt
      cases hvv
      have Htk := Lib.hid (show l.take (k + 1) = l.take k ++ [q] by rw [List.take_succ_eq_append_getElem hlt, hlq])
      have hjk := joinP_take_le l (k + 1)
      have Hjk := Lib.hid hjk
      clear hlq hjk
      by_cases hk0 : k = 0
      · have hd : decide (0 < k) = false := decide_eq_false (by omega)
        have Hn := Lib.hid (show joinP (l.take (k + 1)) = p ++ q by rw [Htk.out, ← Hr.out, hk0]; simp [joinP])
        have hk1 : k < 1 := by omega
        have hpq : p.length + q.length ≤ 4294967296 := by have := Hjk.out; rw [Hn.out] at this; simp at this; omega
        clear hk0 hd
        go_wp2
        go_roundw
        case rel => exact ⟨k + 1, p ++ q, by omega, by go_num, (by first | rfl | simp), Hn.out, hb⟩
        case measure => simp [intOf]; omega
      · have hd : decide (0 < k) = true := decide_eq_true (by omega)
        have Hn := Lib.hid (show joinP (l.take (k + 1)) = p ++ [47] ++ q by
          rw [Htk.out, joinP_snoc q (fun e => by have := congrArg List.length e; rw [List.length_take] at this; simp only [List.length_nil] at this; omega), Hr.out]; simp)
        have hk1 : 0 < k := by omega
        have hpq : p.length + q.length + 1 ≤ 4294967296 := by have := Hjk.out; rw [Hn.out] at this; simp at this; omega
        clear hk0 hd
        go_wp2
        go_roundw
        case rel => exact ⟨k + 1, p ++ [47] ++ q, by omega, by go_num, (by first | rfl | simp), Hn.out, hb⟩
        case measure => simp [intOf]; omega
    · have Hn := Lib.hid (show joinP l = p by rw [← Hr.out, List.take_of_length_le (by omega)])
      go_wp2
      go_ret
      exact ⟨ret_s Hn.out.symm, hb⟩
end Go.Proofs.YtcbmdghnlbieeaaGreatDoor
