/-
  The law AttributeResults: its walk.
-/
import Derived.Test.YtnnhgmpdfjljbaaDoorLwA
namespace Go.Proofs.YtnnhgmpdfjljbaaDoor
open Go.RowKit

set_option maxRecDepth 100000 in
set_option maxHeartbeats 1000000 in
theorem law_AttributeResults (I : IH) (v : Value) (l : List At) (hv : RdS tAt I v l) (hl : AllWf l) (k : Bytes) (w : World) (hw : Ok I w) :
    Calls Tryd.prog 8 #[v, S k] w fun e w' => e = .returned (.bool true) ∧ Below w.heap.size w w' := by
  obtain ⟨ao, cap, rfl, hcap, hcm, _⟩ := id hv
  have Hv := Lib.hid hv; clear hv
  have Hl := Lib.hid hl; clear hl
  go_enter Tryd.func8, Tryd.ntmps8
  go_wp2_with fail
  refine (law_alive32 I _ hw).mono ?_
  rintro e w1 ⟨rfl, hb1⟩
  have hok1 : Ok I w1 := hw.below (Nat.le_refl _) hb1
  go_wp2_with fail
  refine (ref32_Great I _ l Hv.out Hl.out _ hok1).mono ?_
  rintro e w2 ⟨rfl, hb2⟩
  have hok2 : Ok I w2 := hok1.below (Nat.le_refl _) hb2
  have hb2' := hb1.trans (hb2.mono hb1.size)
  clear hb1 hb2
  rcases great_cases l with hg | ⟨hg, hln⟩
  · rw [hg]
    go_wp2
    go_ret
    exact ⟨rfl, hb2'⟩
  · rw [hg]
    by_cases hk : k.length ≤ 100
    · have hd1 : decide (100 < k.length) = false := decide_eq_false (by omega)
      obtain ⟨g, f, hG⟩ : ∃ g f, getA l k = (g, f) := ⟨_, _, rfl⟩
      have HG := Lib.hid hG; clear hG
      obtain ⟨q, hq⟩ : ∃ q, chk l = q := ⟨_, rfl⟩
      have Hq := Lib.hid hq; clear hq
      go_wp2_with fail
      refine (at_Get I _ l Hv.out k _ hok2).mono ?_
      rw [HG.out]
      rintro e w3 ⟨rfl, hb3⟩
      have hok3 : Ok I w3 := hok2.below (Nat.le_refl _) hb3
      have hb3' := hb2'.trans (hb3.mono hb2'.size)
      clear hb2' hb3
      go_wp2_with fail
      refine (ref32_Get I _ l Hv.out k _ hok3).mono ?_
      rw [HG.out]
      rintro e w4 ⟨rfl, hb4⟩
      have hok4 : Ok I w4 := hok3.below (Nat.le_refl _) hb4
      have hb4' := hb3'.trans (hb4.mono hb3'.size)
      clear hb3' hb4
      go_wp2_with fail
      refine (at_Check I _ l Hv.out Hl.out _ hok4).mono ?_
      rw [Hq.out]
      rintro e w5 ⟨rfl, hb5⟩
      have hok5 : Ok I w5 := hok4.below (Nat.le_refl _) hb5
      have hb5' := hb4'.trans (hb5.mono hb4'.size)
      clear hb4' hb5
      go_wp2_with fail
      refine (ref32_Check I _ l Hv.out Hl.out _ hok5).mono ?_
      rw [Hq.out]
      rintro e w6 ⟨rfl, hb6⟩
      have hok6 : Ok I w6 := hok5.below (Nat.le_refl _) hb6
      have hb6' := hb5'.trans (hb6.mono hb5'.size)
      clear hb5' hb6
      go_wp2_with fail
      refine (at_Remove I _ l Hv.out (by omega) k _ hok6).mono ?_
      rintro e w7 ⟨v7, I7, rfl, hb7, hx7, hok7, hr7⟩
      have hb7' := hb6'.trans (hb7.mono hb6'.size)
      have Hr7 := Lib.hid hr7
      have Hv7 := Lib.hid (Hv.out.mono (hx7.keep hok6 (Nat.le_refl _)))
      clear hr7 hb7
      go_wp2_with fail
      refine (ref32_Remove I7 _ l Hv7.out (by omega) k _ hok7).mono ?_
      rintro e w8 ⟨v8, I8, rfl, hb8, hx8, hok8, hr8⟩
      have hb8' := hb7'.trans (hb8.mono hb7'.size)
      have Hr8 := Lib.hid hr8
      have Hr78 := Lib.hid (Hr7.out.mono (hx8.keep hok7 (Nat.le_refl _)))
      clear hr8 hb8
      go_wp2_with fail
      refine (same_eq I8 _ _ _ Hr78.out Hr8.out _ hok8).mono ?_
      rintro e w9 ⟨rfl, hb9⟩
      go_wp2
      go_ret
      exact ⟨rfl, hb8'.trans (hb9.mono hb8'.size)⟩
    · have hd1 : decide (100 < k.length) = true := decide_eq_true (by omega)
      go_wp2
      go_ret
      exact ⟨rfl, hb2'⟩
end Go.Proofs.YtnnhgmpdfjljbaaDoor
