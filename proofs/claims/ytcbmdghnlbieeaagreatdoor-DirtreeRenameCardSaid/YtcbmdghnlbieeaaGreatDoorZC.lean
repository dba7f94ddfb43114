/-
  Walks of the reference's layer 36: Name, Date, target.
  Walks of the reference's layer 36: target, Great.
  Walks of the reference's layer 36: Check.
-/
import Derived.Test.YtcbmdghnlbieeaaGreatDoorZB
namespace Go.Proofs.YtcbmdghnlbieeaaGreatDoor
open Go.RowKit

def nameP (k : Int) : Bytes := if k = 1 then [102, 105, 108, 101] else if k = 2 then [100, 105, 114] else if k = 3 then [108, 105, 110, 107] else if k = 4 then [114, 101, 109, 111, 118, 101] else if k = 5 then [104, 111, 108, 100] else if k = 6 then [114, 101, 108, 101, 97, 115, 101] else []
theorem nameP_nil {k : Int} : nameP k = [] ↔ k < 1 ∨ 6 < k := by
  unfold nameP
  constructor
  · intro h
    by_cases h1 : k < 1 ∨ 6 < k
    · exact h1
    · have : k = 1 ∨ k = 2 ∨ k = 3 ∨ k = 4 ∨ k = 5 ∨ k = 6 := by omega
      rcases this with rfl | rfl | rfl | rfl | rfl | rfl <;> simp at h
  · intro h
    rw [if_neg (by omega), if_neg (by omega), if_neg (by omega), if_neg (by omega), if_neg (by omega), if_neg (by omega)]

set_option maxRecDepth 100000 in
set_option maxHeartbeats 400000 in
theorem ref36_Name (k : Int) (w : World) : Calls Tryz.prog 83 #[.int .i64 k] w fun e w' => e = .returned (S (nameP k)) ∧ w' = w := by
  by_cases h1 : k = 1
  case pos =>
    subst h1
    rw [show nameP 1 = [102, 105, 108, 101] from rfl]
    go_enter Tryz.func83, Tryz.ntmps83
    go_wp2
    go_ret
    exact ⟨rfl, rfl⟩
  by_cases h2 : k = 2
  case pos =>
    subst h2
    rw [show nameP 2 = [100, 105, 114] from rfl]
    go_enter Tryz.func83, Tryz.ntmps83
    go_wp2
    go_ret
    exact ⟨rfl, rfl⟩
  by_cases h3 : k = 3
  case pos =>
    subst h3
    rw [show nameP 3 = [108, 105, 110, 107] from rfl]
    go_enter Tryz.func83, Tryz.ntmps83
    go_wp2
    go_ret
    exact ⟨rfl, rfl⟩
  by_cases h4 : k = 4
  case pos =>
    subst h4
    rw [show nameP 4 = [114, 101, 109, 111, 118, 101] from rfl]
    go_enter Tryz.func83, Tryz.ntmps83
    go_wp2
    go_ret
    exact ⟨rfl, rfl⟩
  by_cases h5 : k = 5
  case pos =>
    subst h5
    rw [show nameP 5 = [104, 111, 108, 100] from rfl]
    go_enter Tryz.func83, Tryz.ntmps83
    go_wp2
    go_ret
    exact ⟨rfl, rfl⟩
  by_cases h6 : k = 6
  case pos =>
    subst h6
    rw [show nameP 6 = [114, 101, 108, 101, 97, 115, 101] from rfl]
    go_enter Tryz.func83, Tryz.ntmps83
    go_wp2
    go_ret
    exact ⟨rfl, rfl⟩
  have hn : nameP k = [] := nameP_nil.2 (by omega)
  have f1 : (k == 1) = false := by simpa using h1
  have f2 : (k == 2) = false := by simpa using h2
  have f3 : (k == 3) = false := by simpa using h3
  have f4 : (k == 4) = false := by simpa using h4
  have f5 : (k == 5) = false := by simpa using h5
  have f6 : (k == 6) = false := by simpa using h6
  rw [hn]
  clear hn h1 h2 h3 h4 h5 h6
  go_enter Tryz.func83, Tryz.ntmps83
  go_wp2
  go_ret
  exact ⟨rfl, rfl⟩

def digC (c : UInt8) : Bool := decide (48 ≤ c) && decide (c ≤ 57)
theorem digC_nat (c : UInt8) : digC c = (decide (48 ≤ c.toNat) && decide (c.toNat ≤ 57)) := by
  unfold digC
  simp [UInt8.le_iff_toNat_le]
theorem digits_snoc (l : Bytes) (c : UInt8) : digits (l ++ [c]) = 10 * digits l + ((c.toNat : Int) - 48) := by
  simp [digits, List.foldl_append]
theorem digits_bd : ∀ (n : Nat) (l : Bytes), l.length = n → l.all digC = true → 0 ≤ digits l ∧ digits l < 10 ^ n := by
  intro n
  induction n with
  | zero =>
    intro l h _
    have : l = [] := List.eq_nil_of_length_eq_zero h
    subst this
    exact ⟨Int.le_refl _, by decide⟩
  | succ n ih =>
    intro l h ha
    have hne : l ≠ [] := by intro e; rw [e] at h; simp at h
    have e : l = l.dropLast ++ [l.getLast hne] := (List.dropLast_concat_getLast hne).symm
    have hl : l.dropLast.length = n := by rw [List.length_dropLast, h]; omega
    rw [e, List.all_append, Bool.and_eq_true] at ha
    obtain ⟨i1, i2⟩ := ih _ hl ha.1
    have hc := ha.2
    simp only [List.all_cons, List.all_nil, Bool.and_true] at hc
    rw [digC_nat, Bool.and_eq_true, decide_eq_true_iff, decide_eq_true_iff] at hc
    rw [e, digits_snoc, Int.pow_succ]
    generalize digits l.dropLast = d at i1 i2
    generalize ((10 : Int) ^ n) = p at i1 i2 ⊢
    omega

/-- What Date returns. -/
def dateP (s : Bytes) : Int × Bool := if s.length < 1 ∨ 10 < s.length ∨ (1 < s.length ∧ s.head? = some 48) ∨ s.all digC = false then (0, false) else (digits s, decide (digits s ≤ 1000000000))
theorem dateP_ok (s : Bytes) : (dateP s).2 = dateOk s := by
  unfold dateP dateOk
  have hd : (fun c : UInt8 => decide (48 ≤ c) && decide (c ≤ 57)) = digC := rfl
  rw [hd]
  by_cases h1 : s.length < 1
  · rw [if_pos (.inl h1), decide_eq_false (by omega)]; rfl
  by_cases h2 : 10 < s.length
  · rw [if_pos (.inr (.inl h2)), decide_eq_false (show ¬ s.length ≤ 10 by omega)]; simp
  by_cases h3 : 1 < s.length ∧ s.head? = some 48
  · rw [if_pos (.inr (.inr (.inl h3)))]
    have : (decide (1 < s.length) && s.head? == some 48) = true := by rw [decide_eq_true h3.1, h3.2]; rfl
    rw [this]; simp
  have h3' : (decide (1 < s.length) && s.head? == some 48) = false := by
    cases h : (decide (1 < s.length) && s.head? == some 48) with
    | false => rfl
    | true =>
      rw [Bool.and_eq_true, decide_eq_true_iff, beq_iff_eq] at h
      exact absurd h h3
  rw [h3', decide_eq_true (show 1 ≤ s.length by omega), decide_eq_true (show s.length ≤ 10 by omega)]
  cases h4 : s.all digC
  · rw [if_pos (.inr (.inr (.inr rfl)))]; simp
  · rw [if_neg (by simp [h1, h2, h3])]; simp

set_option maxRecDepth 100000 in
set_option maxHeartbeats 1000000 in
theorem ref36_Date (s : Bytes) (hs : s.length ≤ 9223372036854775807) (w : World) :
    Calls Tryz.prog 116 #[S s] w fun e w' => e = .returned (.tuple #[.int .i64 (dateP s).1, .bool (dateP s).2]) ∧ Below w.heap.size w w' := by
  by_cases h1 : s.length < 1
  case pos =>
    have hd1 : decide (s.length < 1) = true := decide_eq_true h1
    have Hp := Lib.hid (show dateP s = (0, false) by rw [dateP, if_pos (.inl h1)])
    go_enter Tryz.func116, Tryz.ntmps116
    go_wp2
    go_ret2
    rw [Hp.out]
    exact ⟨rfl, Below.refl _ _⟩
  have hd1 : decide (s.length < 1) = false := decide_eq_false h1
  by_cases h2 : 10 < s.length
  case pos =>
    have hd2 : decide (10 < s.length) = true := decide_eq_true h2
    have Hp := Lib.hid (show dateP s = (0, false) by rw [dateP, if_pos (.inr (.inl h2))])
    go_enter Tryz.func116, Tryz.ntmps116
    go_wp2
    go_ret2
    rw [Hp.out]
    exact ⟨rfl, Below.refl _ _⟩
  have hd2 : decide (10 < s.length) = false := decide_eq_false h2
  have hx0 := run_at Tryz.underlying9 s 0 0 rfl (by omega)
  have he0 : ((((s.getD 0 0).toNat : Nat) : Int) == 48) = (s.getD 0 0 == UInt8.ofNat 48) := eq_u8 (s.getD 0 0) 48 (by decide)
  have hh : s.head? = some (s.getD 0 0) := by cases s <;> simp_all
  have hmain : (1 < s.length ∧ s.head? = some 48) ∨ ¬ (1 < s.length ∧ s.head? = some 48) := Classical.em _
  rcases hmain with h3 | h3
  · have hd3 : decide (1 < s.length) = true := decide_eq_true h3.1
    have he1 : (((s.getD 0 0).toNat : Int) == 48) = true := by
      rw [he0]
      have := h3.2
      rw [hh] at this
      rw [Option.some.inj this]; rfl
    have Hp := Lib.hid (show dateP s = (0, false) by rw [dateP, if_pos (.inr (.inr (.inl h3)))])
    generalize (s.getD 0 0).toNat = c0 at hx0 he1
    have hc0 : c0 = 48 := by have := beq_iff_eq.1 he1; omega
    subst hc0
    have h5 := h3.1
    clear h3 he0 hh he1
    go_enter Tryz.func116, Tryz.ntmps116
    go_wp2
    go_ret2
    rw [Hp.out]
    exact ⟨rfl, Below.refl _ _⟩
  · have Hp := Lib.hid (show dateP s = if s.all digC = false then (0, false) else (digits s, decide (digits s ≤ 1000000000)) by
      rw [dateP]
      by_cases h4 : s.all digC = false
      · rw [if_pos (.inr (.inr (.inr h4))), if_pos h4]
      · rw [if_neg (by simp [h1, h2, h3]; simpa using h4), if_neg h4])
    have hcase : (¬ 1 < s.length ∧ decide (1 < s.length) = false) ∨ (1 < s.length ∧ decide (1 < s.length) = true ∧ (((s.getD 0 0).toNat : Int) == 48) = false) := by
      by_cases h5 : 1 < s.length
      · right
        refine ⟨h5, decide_eq_true h5, ?_⟩
        rw [he0, beq_eq_false_iff_ne]
        intro e
        exact h3 ⟨h5, by rw [hh, e]; rfl⟩
      · exact .inl ⟨h5, decide_eq_false h5⟩
    generalize (s.getD 0 0).toNat = c0 at hx0 hcase
    clear h3 he0 hh
    have H10 : s.length ≤ 10 := by omega
    rcases hcase with ⟨h5, hd3⟩ | ⟨h5, hd3, he3⟩
    all_goals
      go_enter Tryz.func116, Tryz.ntmps116
      go_wp2_with fail
      go_loop [4, 5] (fun s4 s5 => ∃ k : Nat, k ≤ s.length ∧ s5 = .int .i64 k ∧ s4 = .int .i64 (digits (s.take k)) ∧ (s.take k).all digC = true) (fun _ i => s.length - (intOf i).toNat)
      case atStart => exact ⟨0, Nat.zero_le _, rfl, rfl, rfl⟩
      case round =>
        obtain ⟨k, hk, rfl, rfl, hr⟩ := hrel
        have hdb := digits_bd k (s.take k) (by rw [List.length_take]; omega) hr
        have Hr := Lib.hid hr; clear hr
        by_cases hlt : k < s.length
        · have hx := run_at Tryz.underlying9 s (k : Int) k rfl hlt
          have hdc := digC_nat (s.getD k 0)
          have hpk : (10 : Int) ^ k ≤ 10000000000 := by
            have : (10 : Nat) ^ k ≤ 10 ^ 10 := Nat.pow_le_pow_right (by decide) (by omega)
            have h2 : ((10 ^ k : Nat) : Int) ≤ ((10 ^ 10 : Nat) : Int) := by exact_mod_cast this
            simpa using h2
          have htk : s.take (k + 1) = s.take k ++ [s.getD k 0] := by rw [List.take_succ_eq_append_getElem hlt]; simp [List.getD, hlt]
          have hds : digits (s.take (k + 1)) = 10 * digits (s.take k) + (((s.getD k 0).toNat : Int) - 48) := by rw [htk, digits_snoc]
          have hmem : s.getD k 0 ∈ s := by simp [List.getD, hlt]
          have hc256 : (s.getD k 0).toNat < 256 := (s.getD k 0).toNat_lt
          generalize s.getD k 0 = ch at hdc htk hx hc256 hds hmem
          generalize ch.toNat = c at hdc hx hc256 hds
          generalize digits (s.take k) = n at hdb hds ⊢
          generalize ((10 : Int) ^ k) = p10 at hdb hpk
          have Htk := Lib.hid htk
          have Hds := Lib.hid hds
          have Hmem := Lib.hid hmem
          clear htk hds hmem
          by_cases hc1 : 48 ≤ c
          case neg =>
            have d48 : decide ((c : Int) < 48) = true := decide_eq_true (by omega)
            have Hn := Lib.hid (show dateP s = (0, false) by
              rw [Hp.out, if_pos]
              cases h : s.all digC with
              | false => rfl
              | true =>
                have := List.all_eq_true.1 h ch Hmem.out
                rw [hdc, decide_eq_false hc1] at this
                exact absurd this (by simp))
            clear hdc hc1
            go_wp2
            go_ret2
            rw [Hn.out]
            exact ⟨rfl, Below.refl _ _⟩
          have d48 : decide ((c : Int) < 48) = false := decide_eq_false (by omega)
          by_cases hc2 : c ≤ 57
          case neg =>
            have d57 : decide (57 < (c : Int)) = true := decide_eq_true (by omega)
            have Hn := Lib.hid (show dateP s = (0, false) by
              rw [Hp.out, if_pos]
              cases h : s.all digC with
              | false => rfl
              | true =>
                have := List.all_eq_true.1 h ch Hmem.out
                rw [hdc, decide_eq_false hc2] at this
                exact absurd this (by simp))
            clear hdc hc2
            go_wp2
            go_ret2
            rw [Hn.out]
            exact ⟨rfl, Below.refl _ _⟩
          have d57 : decide (57 < (c : Int)) = false := decide_eq_false (by omega)
          have Hdc := Lib.hid (show digC ch = true by rw [hdc, decide_eq_true hc1, decide_eq_true hc2]; rfl)
          clear hdc
          go_wp2
          go_round
          case rel => exact ⟨k + 1, by omega, by go_num, by rw [Hds.out]; go_num, by rw [Htk.out, List.all_append, Hr.out]; simp [Hdc.out]⟩
          case measure => simp [intOf]; omega
        · have hall : s.take k = s := List.take_of_length_le (by omega)
          rw [hall] at Hr hdb ⊢
          have Hn := Lib.hid (show dateP s = (digits s, decide (digits s ≤ 1000000000)) by rw [Hp.out, if_neg (by rw [Hr.out]; simp)])
          clear hall
          go_wp2
          go_ret2
          rw [Hn.out]
          exact ⟨rfl, Below.refl _ _⟩
end Go.Proofs.YtcbmdghnlbieeaaGreatDoor
namespace Go.Proofs.YtcbmdghnlbieeaaGreatDoor
open Go.RowKit

set_option maxRecDepth 100000 in
set_option maxHeartbeats 400000 in
theorem ref36_target (x : Ent) (hx : x.target.length ≤ 9223372036854775807) (va vx : Value) (w : World) :
    Calls Tryz.prog 85 #[entV x va vx] w fun e w' => e = .returned (.bool (targetOk x)) ∧ Below w.heap.size w w' := by
  by_cases h3 : x.kind = 3
  · have f3 : ((x.kind : Int) == 3) = true := by simpa using h3
    by_cases h1 : 1 ≤ x.target.length
    case neg =>
      have d1 : decide (1 ≤ x.target.length) = false := decide_eq_false h1
      have Ht := Lib.hid (show targetOk x = false by rw [targetOk, if_pos h3, d1]; rfl)
      clear h3
      go_enter Tryz.func85, Tryz.ntmps85
      go_wp2
      go_ret
      exact ⟨ret_b Ht.out.symm, (Below.refl _ _).alloc (Nat.le_refl _) _⟩
    have d1 : decide (1 ≤ x.target.length) = true := decide_eq_true h1
    have Ht := Lib.hid (show targetOk x = decide (x.target.length ≤ 200) by rw [targetOk, if_pos h3, d1]; rfl)
    clear h3
    go_enter Tryz.func85, Tryz.ntmps85
    go_wp2
    go_ret
    exact ⟨ret_b (by rw [Ht.out, decide_eq_decide]; omega), (Below.refl _ _).alloc (Nat.le_refl _) _⟩
  have f3 : ((x.kind : Int) == 3) = false := by simpa using h3
  by_cases h5 : x.kind = 5
  · have f5 : ((x.kind : Int) == 5) = true := by simpa using h5
    have Ht := Lib.hid (show targetOk x = (dateP x.target).2 by rw [targetOk, if_neg h3, if_pos h5, dateP_ok])
    clear h3 h5
    go_enter Tryz.func85, Tryz.ntmps85
    go_wp2_with fail
    refine (ref36_Date x.target hx _).mono ?_
    rintro e w1 ⟨rfl, hb1⟩
    go_wp2
    go_ret
    exact ⟨ret_b Ht.out.symm, ((Below.refl _ _).alloc (Nat.le_refl _) _).trans (hb1.mono (by simp))⟩
  have f5 : ((x.kind : Int) == 5) = false := by simpa using h5
  have Ht := Lib.hid (show targetOk x = x.target.isEmpty by rw [targetOk, if_neg h3, if_neg h5])
  clear h3 h5
  go_enter Tryz.func85, Tryz.ntmps85
  go_wp2
  go_ret
  exact ⟨ret_b (by rw [Ht.out]), (Below.refl _ _).alloc (Nat.le_refl _) _⟩

/-- Is an entry too large? -/
def greatE (x : Ent) : Bool := decide (300 < x.path.length) || decide (300 < x.target.length) || decide (100 < x.digest.length) || decide (30 < x.exts.length) || decide (greatA x.attrs = 1)
theorem greatA_cases (l : List At) : greatA l = 1 ∨ greatA l = 0 := by
  unfold greatA
  split
  · exact .inl rfl
  · split
    · exact .inl rfl
    · exact .inr rfl

def grE (x : Ent) : Int := if greatE x then 1 else 0

set_option maxRecDepth 100000 in
set_option maxHeartbeats 400000 in
theorem ref36_Great (I : IH) (x : Ent) (va vx : Value) (hva : RdS tAt I va x.attrs) (hvx : RdS tXt I vx x.exts) (hwf : x.Wf) (w : World) (hw : Ok I w) :
    Calls Tryz.prog 34 #[entV x va vx] w fun e w' => e = .returned (.int .i64 (grE x)) ∧ Below w.heap.size w w' := by
  obtain ⟨ao, cap, rfl, hcap, hcm, _⟩ := id hvx
  have hlx := hvx.len_le
  clear hvx
  by_cases h1 : 300 < x.path.length
  case pos =>
    have Hg := Lib.hid (show grE x = 1 by simp [grE, greatE, h1])
    go_enter Tryz.func34, Tryz.ntmps34
    go_wp2
    go_ret
    exact ⟨ret_i Hg.out.symm, (Below.refl _ _).alloc (Nat.le_refl _) _⟩
  by_cases h2 : 300 < x.target.length
  case pos =>
    have Hg := Lib.hid (show grE x = 1 by simp [grE, greatE, h2])
    go_enter Tryz.func34, Tryz.ntmps34
    go_wp2
    go_ret
    exact ⟨ret_i Hg.out.symm, (Below.refl _ _).alloc (Nat.le_refl _) _⟩
  by_cases h3 : 100 < x.digest.length
  case pos =>
    have Hg := Lib.hid (show grE x = 1 by simp [grE, greatE, h3])
    go_enter Tryz.func34, Tryz.ntmps34
    go_wp2
    go_ret
    exact ⟨ret_i Hg.out.symm, (Below.refl _ _).alloc (Nat.le_refl _) _⟩
  by_cases h4 : 30 < x.exts.length
  case pos =>
    have Hg := Lib.hid (show grE x = 1 by simp [grE, greatE, h4])
    go_enter Tryz.func34, Tryz.ntmps34
    go_wp2
    go_ret
    exact ⟨ret_i Hg.out.symm, (Below.refl _ _).alloc (Nat.le_refl _) _⟩
  have Hg := Lib.hid (show grE x = if greatA x.attrs = 1 then 1 else 0 by simp [grE, greatE, h1, h2, h3, h4])
  have Hgr := Lib.hid (fun w hw => ref32_Great I va x.attrs hva hwf.attrs w hw)
  clear hva
  rcases greatA_cases x.attrs with hg | hg
  · rw [hg] at Hg Hgr
    clear hg
    go_enter Tryz.func34, Tryz.ntmps34
    go_wp2_with fail
    refine (Hgr.out _ (hw.alloc _)).mono ?_
    rintro e w1 ⟨rfl, hb1⟩
    go_wp2
    go_ret
    exact ⟨ret_i Hg.out.symm, ((Below.refl _ _).alloc (Nat.le_refl _) _).trans (hb1.mono (by simp))⟩
  · rw [hg] at Hg Hgr
    clear hg
    go_enter Tryz.func34, Tryz.ntmps34
    go_wp2_with fail
    refine (Hgr.out _ (hw.alloc _)).mono ?_
    rintro e w1 ⟨rfl, hb1⟩
    go_wp2
    go_ret
    exact ⟨ret_i Hg.out.symm, ((Below.refl _ _).alloc (Nat.le_refl _) _).trans (hb1.mono (by simp))⟩
end Go.Proofs.YtcbmdghnlbieeaaGreatDoor
namespace Go.Proofs.YtcbmdghnlbieeaaGreatDoor
open Go.RowKit

/-- The sum of the lengths, as the reference adds them. -/
def sumW (l : List Xt) : Int := l.foldl (fun n x => wrap64 (n + x.n)) 0
theorem sumW_snoc (l : List Xt) (x : Xt) : sumW (l ++ [x]) = wrap64 (sumW l + x.n) := by simp [sumW, List.foldl_append]
/-- What the reference's Check returns. -/
def entErrR (e : Ent) : Int :=
  if e.kind < 1 ∨ 6 < e.kind then 10
  else if pathErr e.path ≠ 0 then pathErr e.path
  else if e.path = [] ∧ e.kind < 5 then 1
  else if chk e.attrs ≠ 0 then chk e.attrs
  else if (e.attrs ≠ [] ∧ 3 < e.kind) ∨ targetOk e = false then 1
  else if e.size < 0 ∨ 65536 < e.size ∨ (e.kind ≠ 1 ∧ e.size ≠ 0) then 2
  else if (e.kind = 1 ∧ e.digest.length ≠ 32) ∨ (e.kind ≠ 1 ∧ e.digest ≠ []) then 1
  else if xtsErr (e.kind == 1) e.exts ≠ 0 then xtsErr (e.kind == 1) e.exts
  else if sumW e.exts ≠ e.size then 1 else 0

theorem xtsErr_ok : ∀ (l : List Xt), xtsErr true l = 0 → ∀ x ∈ l, xtBad x = false
  | [], _, _, h => absurd h (by simp)
  | y :: l, h, x, hx => by
    rw [xtsErr, if_neg (by simp)] at h
    by_cases hb : xtBad y = true
    · rw [if_pos hb] at h; omega
    · rw [if_neg hb] at h
      rcases List.mem_cons.1 hx with rfl | hx
      · simpa using hb
      · exact xtsErr_ok l h x hx
theorem xtBad_len {x : Xt} (h : xtBad x = false) : 1 ≤ x.n ∧ x.n ≤ 65536 := by
  unfold xtBad at h
  simp only [Bool.or_eq_false_iff, decide_eq_false_iff_not] at h
  omega
theorem xtSum_snoc (l : List Xt) (x : Xt) : xtSum (l ++ [x]) = xtSum l + x.n := by simp [xtSum]
theorem xtSum_bd : ∀ (n : Nat) (l : List Xt), l.length = n → (∀ x ∈ l, xtBad x = false) → 0 ≤ xtSum l ∧ xtSum l ≤ 65536 * n := by
  intro n
  induction n with
  | zero =>
    intro l h _
    have : l = [] := List.eq_nil_of_length_eq_zero h
    subst this
    exact ⟨Int.le_refl _, by decide⟩
  | succ n ih =>
    intro l h ha
    have hne : l ≠ [] := by intro e; rw [e] at h; simp at h
    have e : l = l.dropLast ++ [l.getLast hne] := (List.dropLast_concat_getLast hne).symm
    have hl : l.dropLast.length = n := by rw [List.length_dropLast, h]; omega
    obtain ⟨i1, i2⟩ := ih _ hl fun x hx => ha x (List.dropLast_subset _ hx)
    have hc := xtBad_len (ha _ (List.getLast_mem hne))
    rw [e, xtSum_snoc]
    omega
theorem sumW_eq {l : List Xt} (hl : l.length ≤ 1000000) (ha : ∀ x ∈ l, xtBad x = false) : sumW l = xtSum l := by
  have key : ∀ k, k ≤ l.length → sumW (l.take k) = xtSum (l.take k) := by
    intro k
    induction k with
    | zero => intro _; rfl
    | succ k ih =>
      intro hk
      have e : l.take (k + 1) = l.take k ++ [l[k]] := List.take_succ_eq_append_getElem (by omega)
      have hb := xtSum_bd k (l.take k) (by rw [List.length_take]; omega) fun x hx => ha x (List.mem_of_mem_take hx)
      have hc := xtBad_len (ha l[k] (List.getElem_mem _))
      rw [e, sumW_snoc, xtSum_snoc, ih (by omega)]
      unfold wrap64
      omega
  have := key l.length (Nat.le_refl _)
  rwa [List.take_length] at this
theorem entErrR_eq {e : Ent} (h : e.exts.length ≤ 1000000) : entErrR e = entErr e := by
  unfold entErrR entErr
  by_cases h8 : xtsErr (e.kind == 1) e.exts = 0
  · have : sumW e.exts = xtSum e.exts := by
      cases hk : (e.kind == 1)
      · rw [hk] at h8
        cases hx : e.exts with
        | nil => rfl
        | cons y l => rw [hx] at h8; simp [xtsErr] at h8
      · rw [hk] at h8
        exact sumW_eq h (xtsErr_ok _ h8)
    rw [this]
  · simp only [h8, ne_eq, not_false_eq_true, if_true]

/-- The cells of a boxed entry. -/
structure EntB (w : World) (n : Nat) (e : Ent) (va vx : Value) : Prop where
  c0 : w.cell? ⟨n, 0, none⟩ = some (.int .i64 e.kind)
  c1 : w.cell? ⟨n, 1, none⟩ = some (S e.path)
  c2 : w.cell? ⟨n, 2, none⟩ = some va
  c3 : w.cell? ⟨n, 3, none⟩ = some (S e.target)
  c4 : w.cell? ⟨n, 4, none⟩ = some (.int .i64 e.size)
  c5 : w.cell? ⟨n, 5, none⟩ = some (S e.digest)
  c6 : w.cell? ⟨n, 6, none⟩ = some vx
theorem EntB.thru {w w' : World} {n : Nat} {e : Ent} {va vx : Value} (h : EntB w n e va vx) (hb : Below w.heap.size w w') : EntB w' n e va vx :=
  ⟨cell_thru hb h.c0, cell_thru hb h.c1, cell_thru hb h.c2, cell_thru hb h.c3, cell_thru hb h.c4, cell_thru hb h.c5, cell_thru hb h.c6⟩
theorem EntB.past {w : World} {n : Nat} {e : Ent} {va vx : Value} (h : EntB w n e va vx) (x : Obj) : EntB (w.alloc x) n e va vx :=
  ⟨cell_past x h.c0, cell_past x h.c1, cell_past x h.c2, cell_past x h.c3, cell_past x h.c4, cell_past x h.c5, cell_past x h.c6⟩
theorem entB {W w' : World} {e : Ent} {va vx : Value} {t : TypeId} {n : Nat} (hn : n = W.heap.size) (hb : Below (W.alloc (.cells #[.int .i64 e.kind, S e.path, va, S e.target, .int .i64 e.size, S e.digest, vx] t)).heap.size (W.alloc (.cells #[.int .i64 e.kind, S e.path, va, S e.target, .int .i64 e.size, S e.digest, vx] t)) w') : EntB w' n e va vx := by
  subst hn
  exact EntB.thru ⟨by simp, by simp, by simp, by simp, by simp, by simp, by simp⟩ hb

end Go.Proofs.YtcbmdghnlbieeaaGreatDoor
