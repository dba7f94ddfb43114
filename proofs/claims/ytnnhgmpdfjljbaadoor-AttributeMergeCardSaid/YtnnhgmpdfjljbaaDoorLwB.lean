/-
  The law AttributeMerge: its walk.
-/
import Derived.Test.YtnnhgmpdfjljbaaDoorLwA
namespace Go.Proofs.YtnnhgmpdfjljbaaDoor
open Go.RowKit

set_option maxRecDepth 100000 in
set_option maxHeartbeats 1000000 in
theorem law_AttributeMerge (I : IH) (va vb : Value) (a b : List At) (hva : RdS tAt I va a) (ha : AllWf a) (hvb : RdS tAt I vb b) (hb : AllWf b) (w : World) (hw : Ok I w) :
    Calls Tryd.prog 4 #[va, vb] w fun e w' => e = .returned (.bool true) ∧ Below w.heap.size w w' := by
  obtain ⟨ao, cap, rfl, hcap, hcm, _⟩ := id hva
  obtain ⟨ao2, cap2, rfl, hcap2, hcm2, _⟩ := id hvb
  have Hva := Lib.hid hva
  have Ha := Lib.hid ha
  have Hvb := Lib.hid hvb
  have Hb := Lib.hid hb
  clear hva ha hvb hb
  go_enter Tryd.func4, Tryd.ntmps4
  go_wp2_with fail
  refine (law_alive32 I _ hw).mono ?_
  rintro e w1 ⟨rfl, hb1⟩
  have hok1 : Ok I w1 := hw.below (Nat.le_refl _) hb1
  go_wp2_with fail
  refine (ref32_Great I _ a Hva.out Ha.out _ hok1).mono ?_
  rintro e w2 ⟨rfl, hb2⟩
  have hok2 : Ok I w2 := hok1.below (Nat.le_refl _) hb2
  have hb2' := hb1.trans (hb2.mono hb1.size)
  clear hb1 hb2
  rcases great_cases a with hg | ⟨hg, hln⟩
  · rw [hg]
    go_wp2
    go_ret
    exact ⟨rfl, hb2'⟩
  · rw [hg]
    go_wp2_with fail
    refine (ref32_Great I _ b Hvb.out Hb.out _ hok2).mono ?_
    rintro e w3 ⟨rfl, hb3⟩
    have hok3 : Ok I w3 := hok2.below (Nat.le_refl _) hb3
    have hb3' := hb2'.trans (hb3.mono hb2'.size)
    clear hb2' hb3
    rcases great_cases b with hg2 | ⟨hg2, hln2⟩
    · rw [hg2]
      go_wp2
      go_ret
      exact ⟨rfl, hb3'⟩
    · rw [hg2]
      obtain ⟨A, n, hA⟩ : ∃ A n, mergeA a b = (A, n) := ⟨_, _, rfl⟩
      have HA := Lib.hid hA; clear hA
      go_wp2_with fail
      refine (at_Merge I _ _ a b Hva.out Ha.out Hvb.out Hb.out _ hok3).mono ?_
      rw [HA.out]
      rintro e w4 ⟨v4, I4, rfl, hb4, hx4, hok4, hr4⟩
      have hb4' := hb3'.trans (hb4.mono hb3'.size)
      have Hr4 := Lib.hid hr4
      have Hva4 := Lib.hid (Hva.out.mono (hx4.keep hok3 (Nat.le_refl _)))
      have Hvb4 := Lib.hid (Hvb.out.mono (hx4.keep hok3 (Nat.le_refl _)))
      clear hr4 hb4
      go_wp2_with fail
      refine (ref32_Merge I4 _ _ a b Hva4.out Ha.out Hvb4.out Hb.out _ hok4).mono ?_
      rw [HA.out]
      rintro e w5 ⟨v5, I5, rfl, hb5, hx5, hok5, hr5⟩
      have hb5' := hb4'.trans (hb5.mono hb4'.size)
      have Hr5 := Lib.hid hr5
      have Hr45 := Lib.hid (Hr4.out.mono (hx5.keep hok4 (Nat.le_refl _)))
      clear hr5 hb5
      go_wp2_with fail
      refine (same_eq I5 _ _ A Hr45.out Hr5.out _ hok5).mono ?_
      rintro e w6 ⟨rfl, hb6⟩
      go_wp2
      go_ret
      exact ⟨rfl, hb5'.trans (hb6.mono hb5'.size)⟩
end Go.Proofs.YtnnhgmpdfjljbaaDoor
