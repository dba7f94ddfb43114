/-
  The law AttributeGetAfterSet: its walk.
-/
import Derived.Test.YtnnhgmpdfjljbaaDoorLwA
import Derived.Test.YtnnhgmpdfjljbaaDoorPlS
namespace Go.Proofs.YtnnhgmpdfjljbaaDoor
open Go.RowKit

set_option maxRecDepth 100000 in
set_option maxHeartbeats 2000000 in
theorem law_AttributeGetAfterSet (I : IH) (v : Value) (l : List At) (hv : RdS tAt I v l) (hl : AllWf l) (k s o : Bytes) (w : World) (hw : Ok I w) :
    Calls Tryd.prog 9 #[v, S k, S s, S o] w fun e w' => e = .returned (.bool true) ∧ Below w.heap.size w w' := by
  obtain ⟨ao, cap, rfl, hcap, hcm, _⟩ := id hv
  have Hv := Lib.hid hv; clear hv
  have Hl := Lib.hid hl; clear hl
  go_enter Tryd.func9, Tryd.ntmps9
  go_wp2_with fail
  refine (law_alive32 I _ hw).mono ?_
  rintro e w1 ⟨rfl, hb1⟩
  have hok1 : Ok I w1 := hw.below (Nat.le_refl _) hb1
  go_wp2_with fail
  refine (ref32_Great I _ l Hv.out Hl.out _ hok1).mono ?_
  rintro e w2 ⟨rfl, hb2⟩
  have hok2 : Ok I w2 := hok1.below (Nat.le_refl _) hb2
  have hb2' := hb1.trans (hb2.mono hb1.size)
  clear hb1 hb2
  rcases great_cases l with hg | ⟨hg, hln⟩
  · rw [hg]
    go_wp2
    go_ret
    exact ⟨rfl, hb2'⟩
  rw [hg]
  by_cases hk : k.length ≤ 100
  case neg =>
    have hd1 : decide (100 < k.length) = true := decide_eq_true (by omega)
    go_wp2
    go_ret
    exact ⟨rfl, hb2'⟩
  have hd1 : decide (100 < k.length) = false := decide_eq_false (by omega)
  by_cases hs : s.length ≤ 100
  case neg =>
    have hd2 : decide (100 < s.length) = true := decide_eq_true (by omega)
    go_wp2
    go_ret
    exact ⟨rfl, hb2'⟩
  have hd2 : decide (100 < s.length) = false := decide_eq_false (by omega)
  by_cases ho : o.length ≤ 100
  case neg =>
    have hd3 : decide (100 < o.length) = true := decide_eq_true (by omega)
    go_wp2
    go_ret
    exact ⟨rfl, hb2'⟩
  have hd3 : decide (100 < o.length) = false := decide_eq_false (by omega)
  have Hx := Lib.hid (show At.Wf ⟨k, s⟩ from ⟨by show k.length ≤ _; omega, by show s.length ≤ _; omega⟩)
  obtain ⟨A, n, hA⟩ : ∃ A n, setA l ⟨k, s⟩ = (A, n) := ⟨_, _, rfl⟩
  by_cases hn : n = 0
  case neg =>
    have hn0 : (n != 0) = true := by simpa using hn
    have hA0 := setA_err hA hn
    subst hA0
    have HA := Lib.hid hA; clear hA hn
    go_wp2_with fail
    refine (at_Set I _ l Hv.out Hl.out ⟨k, s⟩ Hx.out _ hok2).mono ?_
    rw [HA.out]
    rintro e w3 ⟨v3, I3, rfl, hb3, hx3, hok3, hr3⟩
    obtain ⟨ao3, cap3, rfl, _⟩ := id hr3
    have hb3' := hb2'.trans (hb3.mono hb2'.size)
    go_wp2
    go_ret
    exact ⟨rfl, hb3'⟩
  subst hn
  obtain ⟨p1, p2, p3, p4, p5, p6⟩ := gas hA
  have HA := Lib.hid hA
  have P1 := Lib.hid p1
  have P2 := Lib.hid p2
  have P3 := Lib.hid p3
  have P4 := Lib.hid p4
  have hAw : ∀ x ∈ A, x.Wf := by
    obtain ⟨o1, _, rfl, _⟩ := setA_ok hA
    intro z hz
    rcases (putA_mem o1.srt _ z).1 hz with rfl | ⟨hz, _⟩
    · exact Hx.out
    · exact Hl.out z hz
  have HAw := Lib.hid hAw
  clear hA p1 p2 p3 p4 hAw
  go_wp2_with fail
  refine (at_Set I _ l Hv.out Hl.out ⟨k, s⟩ Hx.out _ hok2).mono ?_
  rw [HA.out]
  rintro e w3 ⟨v3, I3, rfl, hb3, hx3, hok3, hr3⟩
  obtain ⟨ao3, cap3, rfl, hcap3, hcm3, _⟩ := id hr3
  have hb3' := hb2'.trans (hb3.mono hb2'.size)
  have Hr3 := Lib.hid hr3
  have Hv3 := Lib.hid (Hv.out.mono (hx3.keep hok2 (Nat.le_refl _)))
  clear hr3 hb3 hb2'
  go_wp2_with fail
  refine (at_Get I3 _ A Hr3.out k _ hok3).mono ?_
  rw [P2.out]
  rintro e w4 ⟨rfl, hb4⟩
  have hok4 : Ok I3 w4 := hok3.below (Nat.le_refl _) hb4
  have hb4' := hb3'.trans (hb4.mono hb3'.size)
  clear hb4 hb3'
  go_wp2_with fail
  refine (at_Check I3 _ A Hr3.out HAw.out _ hok4).mono ?_
  rw [P1.out]
  rintro e w5 ⟨rfl, hb5⟩
  have hok5 : Ok I3 w5 := hok4.below (Nat.le_refl _) hb5
  have hb5' := hb4'.trans (hb5.mono hb4'.size)
  clear hb5 hb4'
  go_wp2_with fail
  refine (at_Remove I3 _ A Hr3.out (by omega) k _ hok5).mono ?_
  rw [P3.out]
  rintro e w6 ⟨v6, I6, rfl, hb6, hx6, hok6, hr6⟩
  have hb6' := hb5'.trans (hb6.mono hb5'.size)
  have Hr6 := Lib.hid hr6
  have Hv6 := Lib.hid (Hv3.out.mono (hx6.keep hok5 (Nat.le_refl _)))
  have Hr36 := Lib.hid (Hr3.out.mono (hx6.keep hok5 (Nat.le_refl _)))
  clear hr6 hb6 hb5'
  go_wp2_with fail
  refine (at_Remove I6 _ l Hv6.out (by omega) k _ hok6).mono ?_
  rintro e w7 ⟨v7, I7, rfl, hb7, hx7, hok7, hr7⟩
  have hb7' := hb6'.trans (hb7.mono hb6'.size)
  have Hr7 := Lib.hid hr7
  have Hr67 := Lib.hid (Hr6.out.mono (hx7.keep hok6 (Nat.le_refl _)))
  have Hv7 := Lib.hid (Hv6.out.mono (hx7.keep hok6 (Nat.le_refl _)))
  have Hr37 := Lib.hid (Hr36.out.mono (hx7.keep hok6 (Nat.le_refl _)))
  clear hr7 hb7 hb6'
  go_wp2_with fail
  refine (same_eq I7 _ _ _ Hr67.out Hr7.out _ hok7).mono ?_
  rintro e w8 ⟨rfl, hb8⟩
  have hok8 : Ok I7 w8 := hok7.below (Nat.le_refl _) hb8
  have hb8' := hb7'.trans (hb8.mono hb7'.size)
  clear hb8 hb7'
  by_cases hko : o = k
  · have f1 : (o == k) = true := by rw [hko]; exact beq_self_eq_true _
    clear hko
    go_wp2
    go_ret
    exact ⟨rfl, hb8'⟩
  · have f1 : (o == k) = false := by simpa using hko
    have Hgo := Lib.hid (P4.out o hko)
    obtain ⟨g, f, hG⟩ : ∃ g f, getA l o = (g, f) := ⟨_, _, rfl⟩
    have HG := Lib.hid hG; clear hG hko
    go_wp2_with fail
    refine (at_Get I7 _ l Hv7.out o _ hok8).mono ?_
    rw [HG.out]
    rintro e w9 ⟨rfl, hb9⟩
    have hok9 : Ok I7 w9 := hok8.below (Nat.le_refl _) hb9
    have hb9' := hb8'.trans (hb9.mono hb8'.size)
    clear hb9 hb8'
    go_wp2_with fail
    refine (at_Get I7 _ A Hr37.out o _ hok9).mono ?_
    rw [Hgo.out, HG.out]
    rintro e w10 ⟨rfl, hb10⟩
    go_wp2
    go_ret
    exact ⟨rfl, hb9'.trans (hb10.mono hb9'.size)⟩
end Go.Proofs.YtnnhgmpdfjljbaaDoor
