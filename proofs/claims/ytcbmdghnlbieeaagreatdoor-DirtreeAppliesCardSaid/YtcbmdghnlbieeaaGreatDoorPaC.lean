/-
  Walks of the reference's layer 31: Check, Split, Parent, Under, Compare.
-/
import Derived.Test.YtcbmdghnlbieeaaGreatDoorPaB
namespace Go.Proofs.YtcbmdghnlbieeaaGreatDoor
open Go.RowKit

/-- The head of a slice. -/
theorem RdS.takeS {α : Type} {T : Ty α} {I : IH} {l : List α} {ao : Option Addr} {m cap : Nat} (h : RdS T I (.slice ao m cap) l) {n : Nat} (hn : n ≤ l.length) : RdS T I (.slice ao n cap) (l.take n) := by
  obtain ⟨ao', cap', e, h1, h2, h3⟩ := h
  injection e with e1 e2 e3
  subst e1 e3
  have hl : (l.take n).length = n := by rw [List.length_take, Nat.min_eq_left hn]
  refine ⟨_, _, by rw [hl], by omega, h2, fun h0 => ?_⟩
  obtain ⟨b, off, arr, k1, k2, k3⟩ := h3 (by omega)
  refine ⟨b, off, arr, k1, k2, fun i hi => ?_⟩
  obtain ⟨cs, c1, c2⟩ := k3 i (by omega)
  exact ⟨cs, by rw [List.getElem_take]; exact c1, c2⟩

theorem pathErr_cases (s : Bytes) : pathErr s = 0 ∨ pathErr s = 6 ∨ pathErr s = 7 := by
  unfold pathErr
  split
  · exact .inr (.inl rfl)
  · split
    · exact .inr (.inl rfl)
    · split
      · exact .inl rfl
      · exact .inr (.inr rfl)
theorem elsGo_len : ∀ (s p : Bytes) (q : Bytes), q ∈ elsGo p s → q.length ≤ p.length + s.length
  | [], p, q, h => by
    rw [elsGo] at h
    simp at h
    subst h
    simp
  | c :: s, p, q, h => by
    rw [elsGo] at h
    split at h
    · rcases List.mem_cons.1 h with rfl | h
      · simp only [List.length_cons]; omega
      · have := elsGo_len s [] q h
        simp only [List.length_cons, List.length_nil] at this ⊢
        omega
    · have := elsGo_len s _ q h
      simp only [List.length_append, List.length_cons, List.length_nil] at this ⊢
      omega
theorem els_len {s q : Bytes} (h : q ∈ els s) : q.length ≤ s.length := by
  unfold els at h
  split at h
  · exact absurd h (by simp)
  · have := elsGo_len s [] q h
    simpa using this

set_option maxRecDepth 100000 in
set_option maxHeartbeats 400000 in
theorem ref31_Check (I : IH) (s : Bytes) (w : World) (hw : Ok I w) :
    Calls Tryz.prog 51 #[S s] w fun e w' => e = .returned (.int .i64 (pathErr s)) ∧ Below w.heap.size w w' := by
  by_cases h200 : s.length ≤ 200
  case neg =>
    have hd : decide (200 < s.length) = true := decide_eq_true (by omega)
    have Hp := Lib.hid (show pathErr s = 6 by rw [pathErr, if_pos (by omega)])
    go_enter Tryz.func51, Tryz.ntmps51
    go_wp2
    go_ret
    exact ⟨ret_i Hp.out.symm, Below.refl _ _⟩
  have hd : decide (200 < s.length) = false := decide_eq_false (by omega)
  have Hel := Lib.hid (fun (q : Bytes) (h : q ∈ els s) => els_len h)
  have Hp := Lib.hid (show pathErr s = if 8 < (els s).length then 6 else if (els s).all comp then 0 else 7 by rw [pathErr, if_neg (by omega)])
  go_enter Tryz.func51, Tryz.ntmps51
  go_wp2_with fail
  refine (ref31_Elements I s (by omega) _ hw).mono ?_
  generalize els s = l at Hel Hp
  rintro e w1 ⟨v1, I1, rfl, hb1, hx1, hok1, hr1⟩
  obtain ⟨ao, cap, rfl, hcap, hcm, _⟩ := id hr1
  have Hr1 := Lib.hid hr1
  clear hr1 hx1
  by_cases h8 : l.length ≤ 8
  case neg =>
    have hd8 : decide (8 < l.length) = true := decide_eq_true (by omega)
    have Hp2 := Lib.hid (show pathErr s = 6 by rw [Hp.out, if_pos (by omega)])
    go_wp2
    go_ret
    exact ⟨ret_i Hp2.out.symm, hb1⟩
  have hd8 : decide (8 < l.length) = false := decide_eq_false (by omega)
  have Hp2 := Lib.hid (show pathErr s = if l.all comp then 0 else 7 by rw [Hp.out, if_neg (by omega)])
  go_wp2_with fail
  go_loopw [4] (fun s4 wr => ∃ k : Nat, k ≤ l.length ∧ s4 = .int .i64 k ∧ (l.take k).all comp = true ∧ Below w1.heap.size w1 wr) (fun i _ => l.length - (intOf i).toNat)
  case atStart => exact ⟨0, Nat.zero_le _, rfl, rfl, Below.refl _ _⟩
  case round =>
    obtain ⟨k, hk, rfl, hr, hb⟩ := hrel
    have Hr := Lib.hid hr; clear hr
    have hwr : Ok I1 wr := hok1.below (Nat.le_refl _) hb
    by_cases hlt : k < l.length
    · obtain ⟨q, b, off, cap', hlq, hvv, hc⟩ := strAt Hr1.out hwr k hlt
      cases hvv
      have hqm : q ∈ l := by rw [← hlq]; exact List.getElem_mem hlt
      have hql : q.length ≤ 9223372036854775807 := by have := Hel.out q hqm; omega
      have Hqm := Lib.hid hqm
      have Htk := Lib.hid (show l.take (k + 1) = l.take k ++ [q] by rw [List.take_succ_eq_append_getElem hlt, hlq])
      clear hlq hqm
      go_wp2_with fail
      refine (ref31_Component q hql _).mono ?_
      rintro e w2 ⟨rfl, hb2⟩
      have hb2' := hb.trans (hb2.mono hb.size)
      clear hb2
      cases hq : comp q
      · have Hn := Lib.hid (show pathErr s = 7 by
          rw [Hp2.out, if_neg]
          intro h
          rw [List.all_eq_true.1 h q Hqm.out] at hq
          exact absurd hq (by simp))
        clear hq
        go_wp2
        go_ret
        exact ⟨ret_i Hn.out.symm, hb1.trans (hb2'.mono hb1.size)⟩
      · have Hn := Lib.hid (show (l.take (k + 1)).all comp = true by rw [Htk.out, List.all_append, Hr.out]; simp [hq])
        clear hq
        go_wp2
        go_roundw
        case rel => exact ⟨k + 1, by omega, by go_num, Hn.out, hb2'⟩
        case measure => simp [intOf]; omega
    · have Hn := Lib.hid (show pathErr s = 0 by
        have := Hr.out
        rw [List.take_of_length_le (by omega)] at this
        rw [Hp2.out, if_pos this])
      go_wp2
      go_ret
      exact ⟨ret_i Hn.out.symm, hb1.trans (hb.mono hb1.size)⟩

/-- A path's parts, with an error. -/
def splP (s : Bytes) : List Bytes × Int := if pathErr s = 0 then (els s, 0) else ([], pathErr s)
theorem splP_ok {s : Bytes} (h : pathErr s = 0) : splP s = (els s, 0) := by rw [splP, if_pos h]
theorem splP_no {s : Bytes} (h : pathErr s ≠ 0) : splP s = ([], pathErr s) := by rw [splP, if_neg h]

set_option maxRecDepth 100000 in
set_option maxHeartbeats 400000 in
theorem ref31_Split (I : IH) (s : Bytes) (w : World) (hw : Ok I w) :
    Calls Tryz.prog 86 #[S s] w (RetL tStr I w (splP s).1 (splP s).2) := by
  have Hc := Lib.hid (ref31_Check I s w hw)
  by_cases h0 : pathErr s = 0
  · have hs := (pathErr_ok h0).1
    rw [h0] at Hc
    have Hspl := Lib.hid (splP_ok h0)
    clear h0
    go_enter Tryz.func86, Tryz.ntmps86
    go_wp2_with fail
    refine Hc.out.mono ?_
    rintro e w1 ⟨rfl, hb1⟩
    have hok1 : Ok I w1 := hw.below (Nat.le_refl _) hb1
    go_wp2_with fail
    refine (ref31_Elements I s (by omega) _ hok1).mono ?_
    rintro e w2 ⟨v2, I2, rfl, hb2, hx2, hok2, hr2⟩
    go_wp2
    go_ret2
    rw [Hspl.out]
    exact ⟨v2, I2, rfl, hb1.trans (hb2.mono hb1.size), hx2.mono hb1.size, hok2, hr2⟩
  · have Hspl := Lib.hid (splP_no h0)
    obtain ⟨q, hq⟩ : ∃ q, pathErr s = q := ⟨_, rfl⟩
    have hn : (q != 0) = true := by rw [← hq]; simpa using h0
    rw [hq] at Hspl Hc
    clear hq h0
    go_enter Tryz.func86, Tryz.ntmps86
    go_wp2_with fail
    refine Hc.out.mono ?_
    rintro e w1 ⟨rfl, hb1⟩
    have hok1 : Ok I w1 := hw.below (Nat.le_refl _) hb1
    go_wp2
    go_ret2
    rw [Hspl.out]
    exact ⟨_, I, rfl, hb1, Ext.refl _ _, hok1, RdS.nil _ _⟩

/-- What lies above a path, with an error. -/
def parP (s : Bytes) : Bytes × Int := if pathErr s ≠ 0 then ([], pathErr s) else if s = [] then ([], 1) else (upP s, 0)

set_option maxRecDepth 100000 in
set_option maxHeartbeats 400000 in
theorem ref31_Parent (I : IH) (s : Bytes) (w : World) (hw : Ok I w) :
    Calls Tryz.prog 48 #[S s] w fun e w' => e = .returned (.tuple #[S (parP s).1, .int .i64 (parP s).2]) ∧ Below w.heap.size w w' := by
  by_cases h0 : pathErr s = 0
  · have Hsp := Lib.hid (fun w hw => by have := ref31_Split I s w hw; rw [splP_ok h0] at this; exact this)
    have hs := (pathErr_ok h0).1
    have Hpp := Lib.hid (show parP s = if s = [] then ([], 1) else (upP s, 0) by rw [parP, if_neg (by omega)])
    have hjl : (joinP (els s)).length ≤ 200 := by rw [joinP_els]; exact hs
    have hel := els_nil (s := s)
    have hup : upP s = joinP ((els s).take ((els s).length - 1)) := by rw [upP, List.dropLast_eq_take]
    have Hjt := Lib.hid (joinP_take_le (els s) ((els s).length - 1))
    generalize els s = l at Hsp hjl hel hup Hjt
    have Hel := Lib.hid hel
    have Hup := Lib.hid hup
    clear h0 hel hup
    go_enter Tryz.func48, Tryz.ntmps48
    go_wp2_with fail
    refine (Hsp.out _ hw).mono ?_
    rintro e w1 ⟨v1, I1, rfl, hb1, hx1, hok1, hr1⟩
    obtain ⟨ao, cap, rfl, hcap, hcm, _⟩ := id hr1
    have Hr1 := Lib.hid hr1
    clear hr1 hx1
    have hml : maxLen = 9223372036854775807 := rfl
    by_cases hl0 : l.length = 0
    · have Hn := Lib.hid (show parP s = ([], 1) by rw [Hpp.out, if_pos (Hel.out.1 (List.eq_nil_of_length_eq_zero hl0))])
      have hz : ((l.length : Int) == 0) = true := by rw [hl0]; rfl
      clear hl0 hml
      go_wp2
      go_ret2
      rw [Hn.out]
      exact ⟨rfl, hb1⟩
    · have Hn := Lib.hid (show parP s = (joinP (l.take (l.length - 1)), 0) by
        rw [Hpp.out, if_neg (fun e => hl0 (by rw [Hel.out.2 e]; rfl)), Hup.out])
      have hz : ((l.length : Int) == 0) = false := by rw [beq_eq_false_iff_ne]; omega
      have hlp : 1 ≤ l.length := by omega
      have hi : IntKind.i64.wrap ((l.length : Int) - 1) = (l.length : Int) - 1 := IntWalk.i64_in _ (by omega)
      have hj : (0 : Int) ≤ (l.length : Int) - 1 := by omega
      have hj2 : (l.length : Int) - 1 ≤ (cap : Int) := by omega
      have hm : ((l.length : Int) - 1).toNat = l.length - 1 := by omega
      have Hr2 := Lib.hid (Hr1.out.takeS (n := l.length - 1) (by omega))
      have Hj2 := Lib.hid (show (joinP (l.take (l.length - 1))).length ≤ 4294967296 by have := Hjt.out; omega)
      clear hl0 hml
      go_wp2_with fail
      refine (ref31_path I1 _ _ Hr2.out Hj2.out _ hok1).mono ?_
      rintro e w2 ⟨rfl, hb2⟩
      go_wp2
      go_ret2
      rw [Hn.out]
      exact ⟨rfl, hb1.trans (hb2.mono hb1.size)⟩
  · have Hsp := Lib.hid (fun w hw => by have := ref31_Split I s w hw; rw [splP_no h0] at this; exact this)
    obtain ⟨q, hq⟩ : ∃ q, pathErr s = q := ⟨_, rfl⟩
    have hn : (q != 0) = true := by rw [← hq]; simpa using h0
    have Hpp := Lib.hid (show parP s = ([], q) by rw [parP, if_pos h0, hq])
    rw [hq] at Hsp
    clear hq h0
    go_enter Tryz.func48, Tryz.ntmps48
    go_wp2_with fail
    refine (Hsp.out _ hw).mono ?_
    rintro e w1 ⟨v1, I1, rfl, hb1, hx1, hok1, hr1⟩
    obtain ⟨ao, cap, rfl, hcap, hcm, _⟩ := id hr1
    go_wp2
    go_ret2
    rw [Hpp.out]
    exact ⟨rfl, hb1⟩
end Go.Proofs.YtcbmdghnlbieeaaGreatDoor
