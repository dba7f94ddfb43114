/-
  Walks of layer 32: key, attr, Check.
-/
import Derived.Test.YtcbmdghnlbieeaaGreatDoorAtBx
import Derived.Test.YtcbmdghnlbieeaaGreatDoorAtC
import Derived.Test.YtcbmdghnlbieeaaGreatDoorShT
import Derived.Test.YtcbmdghnlbieeaaGreatDoorShP
namespace Go.Proofs.YtcbmdghnlbieeaaGreatDoor
open Go.RowKit

abbrev cutset0 : Bytes := [97, 98, 99, 100, 101, 102, 103, 104, 105, 106, 107, 108, 109, 110, 111, 112, 113, 114, 115, 116, 117, 118, 119, 120, 121, 122, 48, 49, 50, 51, 52, 53, 54, 55, 56, 57, 46, 95, 45]
set_option maxRecDepth 100000 in
theorem cutset0_char (c : UInt8) : cutset0.contains c = keyChar c := by
  have h : ∀ n : Fin 256, cutset0.contains (UInt8.ofNat n.1) = keyChar (UInt8.ofNat n.1) := by decide
  have := h ⟨c.toNat, c.toNat_lt⟩
  simpa using this

theorem trimS_nil (s cs : Bytes) : Lib.trimS s cs = [] ↔ s.all (cs.contains ·) = true := by
  have hd : ∀ l : Bytes, l.dropWhile (cs.contains ·) = [] ↔ l.all (cs.contains ·) = true := by
    intro l
    induction l with
    | nil => simp
    | cons x l ih =>
      rw [List.dropWhile_cons, List.all_cons]
      cases h : cs.contains x
      · simp
      · simp only [if_true, Bool.true_and]; exact ih
  have hdd : ∀ l : Bytes, (l.dropWhile (cs.contains ·)).all (cs.contains ·) = l.all (cs.contains ·) := by
    intro l
    induction l with
    | nil => rfl
    | cons x l ih =>
      rw [List.dropWhile_cons]
      cases h : cs.contains x
      · rfl
      · simp only [if_true]; rw [ih, List.all_cons, h, Bool.true_and]
  unfold Lib.trimS Lib.trimLeftS Lib.trimRightS
  rw [hd, List.all_reverse, hdd, List.all_reverse]

set_option maxRecDepth 100000 in
theorem lib_Trim (s : Bytes) (hs : s.length ≤ 9223372036854775807) (w : World) :
    Calls Tryz.prog 163 #[S s, S cutset0] w fun e w' => e = .returned (S (Lib.trimS s cutset0)) ∧ Below w.heap.size w w' := by
  have h := Tryz.strings_Trim ⟨s.toArray⟩ ⟨cutset0.toArray⟩ w (by rw [ByteArray.size_mk', List.size_toArray]; exact hs) (by decide) (ascii_of_all (by decide))
  exact h

def keyErr (s : Bytes) : Int := if keyOk s then 0 else 7

set_option maxRecDepth 100000 in
set_option maxHeartbeats 400000 in
theorem at_key (s : Bytes) (hs : s.length ≤ 9223372036854775807) (w : World) :
    Calls Tryz.prog 140 #[S s] w fun e w' => e = .returned (.int .i64 (keyErr s)) ∧ Below w.heap.size w w' := by
  by_cases h1 : s = []
  · have hE : keyErr s = 7 := by rw [h1]; rfl
    have HE := Lib.hid hE
    have f1 : (s == []) = true := by rw [h1]; rfl
    have f2 : s.isEmpty = true := by rw [h1]; rfl
    have f3 : (!s.isEmpty) = false := by rw [h1]; rfl
    clear hE h1
    go_enter Tryz.func140, Tryz.ntmps140
    go_wp2
    go_ret
    exact ⟨ret_i HE.out.symm, Below.refl _ _⟩
  · have hlen : 1 ≤ s.length := by cases s <;> simp_all
    have f1 : (s == []) = false := by simpa using h1
    have f2 : s.isEmpty = false := by cases s <;> simp_all
    have f3 : (!s.isEmpty) = true := by rw [f2]; rfl
    clear h1
    by_cases h32 : s.length ≤ 32
    · have hd1 : decide (32 < s.length) = false := decide_eq_false (by omega)
      have hk : keyOk s = s.all (cutset0.contains ·) := by
        have : (fun c => cutset0.contains c) = keyChar := funext cutset0_char
        rw [this]; simp [keyOk, h32, hlen]
      have ht := trimS_nil s cutset0
      have Htr := Lib.hid (lib_Trim s hs)
      generalize hT : Lib.trimS s cutset0 = T at ht Htr
      by_cases hTn : T = []
      · have HE := Lib.hid (show keyErr s = 0 by rw [keyErr, hk, if_pos (ht.1 hTn)])
        have g1 : (T == []) = true := by rw [hTn]; rfl
        have g2 : T.isEmpty = true := by rw [hTn]; rfl
        have g3 : (!T.isEmpty) = false := by rw [hTn]; rfl
        clear hTn ht hk hT
        go_enter Tryz.func140, Tryz.ntmps140
        go_wp2_with fail
        refine (Htr.out _).mono ?_
        rintro e w1 ⟨rfl, hb1⟩
        go_wp2
        go_ret
        exact ⟨ret_i HE.out.symm, hb1⟩
      · have HE := Lib.hid (show keyErr s = 7 by rw [keyErr, hk, if_neg (fun h => hTn (ht.2 h))])
        have g1 : (T == []) = false := by simpa using hTn
        have g2 : T.isEmpty = false := by cases T <;> simp_all
        have g3 : (!T.isEmpty) = true := by rw [g2]; rfl
        clear hTn ht hk hT
        go_enter Tryz.func140, Tryz.ntmps140
        go_wp2_with fail
        refine (Htr.out _).mono ?_
        rintro e w1 ⟨rfl, hb1⟩
        go_wp2
        go_ret
        exact ⟨ret_i HE.out.symm, hb1⟩
    · have hd1 : decide (32 < s.length) = true := decide_eq_true (by omega)
      have HE := Lib.hid (show keyErr s = 7 by rw [keyErr, if_neg (by simp [keyOk, h32])])
      go_enter Tryz.func140, Tryz.ntmps140
      go_wp2
      go_ret
      exact ⟨ret_i HE.out.symm, Below.refl _ _⟩

set_option maxRecDepth 100000 in
set_option maxHeartbeats 400000 in
theorem at_attr (x : At) (hx : x.Wf) (w : World) :
    Calls Tryz.prog 109 #[x.val] w fun e w' => e = .returned (.int .i64 (atErr x)) ∧ Below w.heap.size w w' := by
  obtain ⟨hx1, hx2⟩ := hx
  cases hk : keyOk x.k
  · have HE := Lib.hid (show keyErr x.k = 7 by rw [keyErr, hk]; rfl)
    have HA := Lib.hid (show atErr x = 7 by rw [atErr, if_pos hk])
    clear hk
    go_enter Tryz.func109, Tryz.ntmps109
    go_wp2_with fail
    refine (at_key x.k hx1 _).mono ?_
    rintro e w1 ⟨rfl, hb1⟩
    rw [HE.out]
    go_wp2
    go_ret
    exact ⟨ret_i HA.out.symm, ((Below.refl _ _).alloc (Nat.le_refl _) _).trans (hb1.mono (by simp))⟩
  · have HE := Lib.hid (show keyErr x.k = 0 by rw [keyErr, hk]; rfl)
    have Hk := Lib.hid hk
    clear hk
    by_cases h64 : x.v.length ≤ 64
    · have hd : decide (64 < x.v.length) = false := decide_eq_false (by omega)
      have HA := Lib.hid (show atErr x = 0 by rw [atErr, if_neg (by rw [Hk.out]; simp), if_neg (by omega)])
      go_enter Tryz.func109, Tryz.ntmps109
      go_wp2_with fail
      refine (at_key x.k hx1 _).mono ?_
      rintro e w1 ⟨rfl, hb1⟩
      rw [HE.out]
      obtain ⟨hc0, hc1⟩ := atBox rfl hb1
      go_wp2
      go_ret
      exact ⟨ret_i HA.out.symm, ((Below.refl _ _).alloc (Nat.le_refl _) _).trans (hb1.mono (by simp))⟩
    · have hd : decide (64 < x.v.length) = true := decide_eq_true (by omega)
      have HA := Lib.hid (show atErr x = 6 by rw [atErr, if_neg (by rw [Hk.out]; simp), if_pos (by omega)])
      go_enter Tryz.func109, Tryz.ntmps109
      go_wp2_with fail
      refine (at_key x.k hx1 _).mono ?_
      rintro e w1 ⟨rfl, hb1⟩
      rw [HE.out]
      obtain ⟨hc0, hc1⟩ := atBox rfl hb1
      go_wp2
      go_ret
      exact ⟨ret_i HA.out.symm, ((Below.refl _ _).alloc (Nat.le_refl _) _).trans (hb1.mono (by simp))⟩

theorem cmp_bytes : ∀ (a b : Bytes), Lib.compareBytes a b = if Op.bytesLess a b then -1 else if a == b then 0 else 1
  | [], [] => rfl
  | [], _ :: _ => rfl
  | _ :: _, [] => rfl
  | x :: a, y :: b => by
    rw [Lib.compareBytes, cmp_bytes a b, Op.bytesLess]
    by_cases h1 : x < y
    · simp [h1]
    · by_cases h2 : y < x
      · have : ¬ x = y := fun e => by subst e; exact UInt8.lt_irrefl _ h2
        simp [h1, h2, this]
      · have e : x = y := UInt8.le_antisymm (UInt8.not_lt.1 h2) (UInt8.not_lt.1 h1)
        subst e
        simp

set_option maxRecDepth 100000 in
theorem lib_Compare (a b : Bytes) (w : World) : Calls Tryz.prog 110 #[S a, S b] w fun e w' => e = .returned (.int .i64 (Lib.compareBytes a b)) ∧ Below w.heap.size w w' :=
  (Tryz.strings_Compare ⟨a.toArray⟩ ⟨b.toArray⟩ w).mono fun _ _ ⟨h1, h2⟩ => ⟨h1, by rw [h2]; exact Below.refl _ _⟩
end Go.Proofs.YtcbmdghnlbieeaaGreatDoor
