/-
  The law AttributeOrder: its walk.
-/
import Derived.Test.YtnnhgmpdfjljbaaDoorLwA
import Derived.Test.YtnnhgmpdfjljbaaDoorPlS
namespace Go.Proofs.YtnnhgmpdfjljbaaDoor
open Go.RowKit

theorem set_wf {l A : List At} {x : At} (h : setA l x = (A, 0)) (hl : AllWf l) (hx : x.Wf) : AllWf A := by
  obtain ⟨o1, _, rfl, _⟩ := setA_ok h
  intro z hz
  rcases (putA_mem o1.srt _ z).1 hz with rfl | ⟨hz, _⟩
  · exact hx
  · exact hl z hz

set_option maxRecDepth 100000 in
set_option maxHeartbeats 2000000 in
theorem law_AttributeOrder (I : IH) (v : Value) (l : List At) (hv : RdS tAt I v l) (hl : AllWf l) (x y : At) (hx : x.Wf) (hy : y.Wf) (w : World) (hw : Ok I w) :
    Calls Tryd.prog 5 #[v, S x.k, S x.v, S y.k, S y.v] w fun e w' => e = .returned (.bool true) ∧ Below w.heap.size w w' := by
  obtain ⟨ao, cap, rfl, hcap, hcm, _⟩ := id hv
  have Hv := Lib.hid hv; clear hv
  have Hl := Lib.hid hl; clear hl
  have Hx := Lib.hid hx; clear hx
  have Hy := Lib.hid hy; clear hy
  go_enter Tryd.func5, Tryd.ntmps5
  go_wp2_with fail
  refine (law_alive32 I _ hw).mono ?_
  rintro e w1 ⟨rfl, hb1⟩
  have hok1 : Ok I w1 := hw.below (Nat.le_refl _) hb1
  go_wp2_with fail
  refine (ref32_Great I _ l Hv.out Hl.out _ hok1).mono ?_
  rintro e w2 ⟨rfl, hb2⟩
  have hok2 : Ok I w2 := hok1.below (Nat.le_refl _) hb2
  have hb2' := hb1.trans (hb2.mono hb1.size)
  clear hb1 hb2
  rcases great_cases l with hg | ⟨hg, hln⟩
  · rw [hg]
    go_wp2
    go_ret
    exact ⟨rfl, hb2'⟩
  rw [hg]
  cases hd : decide (200 < wrap64 (wrap64 (wrap64 ((x.k.length : Int) + x.v.length) + y.k.length) + y.v.length))
  case true =>
    go_wp2
    go_ret
    exact ⟨rfl, hb2'⟩
  obtain ⟨A1, n1, hA1⟩ : ∃ A n, setA l x = (A, n) := ⟨_, _, rfl⟩
  have HA1 := Lib.hid hA1
  by_cases hn1 : n1 = 0
  case neg =>
    have hn0 : (n1 != 0) = true := by simpa using hn1
    clear hA1 hn1
    go_wp2_with fail
    refine (at_Set I _ l Hv.out Hl.out x Hx.out _ hok2).mono ?_
    rw [HA1.out]
    rintro e w3 ⟨v3, I3, rfl, hb3, hx3, hok3, hr3⟩
    have hb3' := hb2'.trans (hb3.mono hb2'.size)
    go_wp2
    go_ret
    exact ⟨rfl, hb3'⟩
  subst hn1
  have HW1 := Lib.hid (set_wf hA1 Hl.out Hx.out)
  have hEr := fun h => order_err (y := y) hA1 h
  have hSm := fun A3 h => order_same (y := y) (A3 := A3) hA1 h
  have hTw := fun A3 h => order_two (y := y) (A3 := A3) hA1 h
  obtain ⟨A2, n2, hA2⟩ : ∃ A n, setA A1 y = (A, n) := ⟨_, _, rfl⟩
  obtain ⟨A3, n3, hA3⟩ : ∃ A n, setA l y = (A, n) := ⟨_, _, rfl⟩
  have HA2 := Lib.hid hA2
  have HA3 := Lib.hid hA3
  have HEr := Lib.hid hEr
  have HSm := Lib.hid hSm
  have HTw := Lib.hid hTw
  clear hA1 hA2 hA3 hEr hSm hTw
  go_wp2_with fail
  refine (at_Set I _ l Hv.out Hl.out x Hx.out _ hok2).mono ?_
  rw [HA1.out]
  rintro e w3 ⟨v3, I3, rfl, hb3, hx3, hok3, hr3⟩
  have hb3' := hb2'.trans (hb3.mono hb2'.size)
  have Hr3 := Lib.hid hr3
  have Hv3 := Lib.hid (Hv.out.mono (hx3.keep hok2 (Nat.le_refl _)))
  clear hr3 hb3 hb2'
  go_wp2_with fail
  refine (at_Set I3 _ A1 Hr3.out HW1.out y Hy.out _ hok3).mono ?_
  rw [HA2.out]
  rintro e w4 ⟨v4, I4, rfl, hb4, hx4, hok4, hr4⟩
  have hb4' := hb3'.trans (hb4.mono hb3'.size)
  have Hr4 := Lib.hid hr4
  have Hv4 := Lib.hid (Hv3.out.mono (hx4.keep hok3 (Nat.le_refl _)))
  clear hr4 hb4 hb3'
  go_wp2_with fail
  refine (at_Set I4 _ l Hv4.out Hl.out y Hy.out _ hok4).mono ?_
  rw [HA3.out]
  rintro e w5 ⟨v5, I5, rfl, hb5, hx5, hok5, hr5⟩
  have hb5' := hb4'.trans (hb5.mono hb4'.size)
  have Hr5 := Lib.hid hr5
  have Hr45 := Lib.hid (Hr4.out.mono (hx5.keep hok4 (Nat.le_refl _)))
  clear hr5 hb5 hb4'
  by_cases hn3 : n3 = 0
  case neg =>
    have hn30 : (n3 != 0) = true := by simpa using hn3
    have hn20 : (n2 != 0) = true := by
      have h := HEr.out (by rw [HA3.out]; exact hn3)
      rw [HA2.out] at h
      simpa using h
    clear hn3
    go_wp2
    go_ret
    exact ⟨rfl, hb5'⟩
  subst hn3
  have HW3 := Lib.hid (set_wf HA3.out Hl.out Hy.out)
  obtain ⟨A4, n4, hA4⟩ : ∃ A n, setA A3 x = (A, n) := ⟨_, _, rfl⟩
  have HA4 := Lib.hid hA4
  clear hA4
  go_wp2_with fail
  refine (at_Set I5 _ A3 Hr5.out HW3.out x Hx.out _ hok5).mono ?_
  rw [HA4.out]
  rintro e w6 ⟨v6, I6, rfl, hb6, hx6, hok6, hr6⟩
  have hb6' := hb5'.trans (hb6.mono hb5'.size)
  have Hr6 := Lib.hid hr6
  have Hr46 := Lib.hid (Hr45.out.mono (hx6.keep hok5 (Nat.le_refl _)))
  have Hr56 := Lib.hid (Hr5.out.mono (hx6.keep hok5 (Nat.le_refl _)))
  clear hr6 hb6 hb5'
  by_cases he : x.k = y.k
  · have f1 : (x.k == y.k) = true := by rw [he]; exact beq_self_eq_true _
    have h := HSm.out A3 HA3.out he
    rw [HA2.out] at h
    obtain ⟨rfl, rfl⟩ := Prod.mk.inj h
    have Hr46' := Hr46
    clear he h
    go_wp2_with fail
    refine (same_eq I6 _ _ _ Hr46.out Hr56.out _ hok6).mono ?_
    rintro e w7 ⟨rfl, hb7⟩
    go_wp2
    go_ret
    exact ⟨rfl, hb6'.trans (hb7.mono hb6'.size)⟩
  · have f1 : (x.k == y.k) = false := by simpa using he
    have h := HTw.out A3 HA3.out he
    rw [HA2.out, HA4.out] at h
    obtain ⟨rfl, rfl⟩ := Prod.mk.inj h
    clear he h
    go_wp2_with fail
    refine (same_eq I6 _ _ _ Hr46.out Hr6.out _ hok6).mono ?_
    rintro e w7 ⟨rfl, hb7⟩
    go_wp2
    go_ret
    exact ⟨rfl, hb6'.trans (hb7.mono hb6'.size)⟩
end Go.Proofs.YtnnhgmpdfjljbaaDoor
