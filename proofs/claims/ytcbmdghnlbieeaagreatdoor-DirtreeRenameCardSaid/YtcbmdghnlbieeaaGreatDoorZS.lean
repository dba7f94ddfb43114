/-
  The laws of layer 37: DirtreeApplies, DirtreeCommutes: their walks.
  The laws of layer 37: DirtreeQueries, DirtreeMerkle: their walks.
-/
import Derived.Test.YtcbmdghnlbieeaaGreatDoorZM
import Derived.Test.YtcbmdghnlbieeaaGreatDoorZJ
import Derived.Test.YtcbmdghnlbieeaaGreatDoorZR
namespace Go.Proofs.YtcbmdghnlbieeaaGreatDoor
open Go.RowKit

theorem app_sml {t a : List Ent} {e : Ent} (h : OkT t) (hs : SmlT t) (he : greatE e = false) (ha : applyT t e = (a, 0)) : SmlT a := by
  obtain ⟨_, rfl⟩ := applyT_iff.1 ha
  intro z hz
  rcases (opT_mem h.srt e z).1 hz with ⟨_, rfl⟩ | ⟨hz, _⟩
  · have := great_no he; omega
  · exact hs z hz
theorem app_len {t a : List Ent} {e : Ent} (ha : applyT t e = (a, 0)) : a.length ≤ t.length + 1 := by
  obtain ⟨_, rfl⟩ := applyT_iff.1 ha
  exact opT_len t e
theorem app_all {t a : List Ent} {e : Ent} (h : OkT t) (ht : AllE t) (he : e.Wf) (ha : applyT t e = (a, 0)) : AllE a := by
  obtain ⟨_, rfl⟩ := applyT_iff.1 ha
  intro z hz
  rcases (opT_mem h.srt e z).1 hz with ⟨_, rfl⟩ | ⟨hz, _⟩
  · exact he
  · exact ht z hz
theorem app_great {t a : List Ent} {e : Ent} (h : OkT t) (ht : ∀ x ∈ t, greatE x = false) (he : greatE e = false) (ha : applyT t e = (a, 0)) : ∀ x ∈ a, greatE x = false := by
  obtain ⟨_, rfl⟩ := applyT_iff.1 ha
  intro z hz
  rcases (opT_mem h.srt e z).1 hz with ⟨_, rfl⟩ | ⟨hz, _⟩
  · exact he
  · exact ht z hz
theorem ref37_Same_eq (I : IH) (v1 v2 : Value) (l : List Ent) (hv1 : RdS tEnt I v1 l) (hv2 : RdS tEnt I v2 l) (w : World) (hw : Ok I w) :
    Calls Tryz.prog 17 #[v1, v2] w fun e w' => e = .returned (.bool true) ∧ Below w.heap.size w w' := by
  have h := ref37_Same I v1 v2 l l hv1 hv2 w hw
  rwa [decide_eq_true rfl] at h

set_option maxRecDepth 100000 in
set_option maxHeartbeats 2000000 in
theorem law_DirtreeApplies (I : IH) (hI : Glob I) (v : Value) (t : List Ent) (hv : RdS tEnt I v t) (ht : AllE t) (e : Ent) (va vx : Value) (hva : RdS tAt I va e.attrs) (hvx : RdS tXt I vx e.exts) (hwf : e.Wf) (w : World) (hw : Ok I w) :
    Calls Tryz.prog 3 #[v, entV e va vx] w fun r w' => r = .returned (.bool true) ∧ Below w.heap.size w w' := by
  have Hal := Lib.hid (fun w hw => law_alive37 I hI w hw)
  have Hri := Lib.hid (fun w hw => ref37_Right I _ t hv ht w hw)
  have Hsm := Lib.hid (fun w hw => law_small I e va vx hva hvx hwf w hw)
  have HI := Lib.hid hI
  obtain ⟨ao, cap, rfl, hcap, hcm, _⟩ := id hv
  obtain ⟨aa, ca, rfl, _, _, _⟩ := id hva
  obtain ⟨ax, cx, rfl, _, _, _⟩ := id hvx
  have Hv := Lib.hid hv
  have Hva := Lib.hid hva
  have Hvx := Lib.hid hvx
  clear hv hva hvx hI
  go_enter Tryz.func3, Tryz.ntmps3
  go_wp2_with fail
  refine (Hal.out _ (hw.alloc _)).mono ?_
  rintro e1 w1 ⟨rfl, hb1⟩
  have HB1 := Lib.hid (entB rfl hb1)
  have hok1 : Ok I w1 := (hw.alloc _).below (Nat.le_refl _) hb1
  have hsz1 : w.heap.size < w1.heap.size := by have := hb1.size; simp at this; omega
  have hb1' : Below w.heap.size w w1 := ((Below.refl _ _).alloc (Nat.le_refl _) _).trans (hb1.mono (by simp))
  clear hb1
  rcases right_cases t with hr | ⟨hr, hl, hok, hg⟩
  · rw [hr] at Hri
    go_wp2_with fail
    refine (Hri.out _ hok1).mono ?_
    rintro e2 w2 ⟨rfl, hb2⟩
    go_wp2
    go_ret
    exact ⟨rfl, hb1'.trans (hb2.mono hb1'.size)⟩
  rw [hr] at Hri
  have Hok := Lib.hid hok
  have Hg := Lib.hid hg
  clear hok hg
  go_wp2_with fail
  refine (Hri.out _ hok1).mono ?_
  rintro e2 w2 ⟨rfl, hb2⟩
  obtain ⟨c0, c1, c2, c3, c4, c5, c6⟩ := HB1.out.thru hb2
  have HB2 := Lib.hid (HB1.out.thru hb2)
  have hok2 := hok1.below (Nat.le_refl _) hb2
  have hb2' := hb1'.trans (hb2.mono hb1'.size)
  clear hb2 HB1 hb1'
  go_wp2_with fail
  refine (Hsm.out _ hok2).mono ?_
  rintro e3 w3 ⟨rfl, hb3⟩
  clear c0 c1 c2 c3 c4 c5 c6
  cases hge : greatE e
  case true =>
    go_wp2
    go_ret
    exact ⟨rfl, hb2'.trans (hb3.mono hb2'.size)⟩
  have hnn := great_no hge
  obtain ⟨c0, c1, c2, c3, c4, c5, c6⟩ := HB2.out.thru hb3
  have HB3 := Lib.hid (HB2.out.thru hb3)
  have hok3 := hok2.below (Nat.le_refl _) hb3
  have hb3' := hb2'.trans (hb3.mono hb2'.size)
  have hs3 := hb3'.size
  clear hb3 HB2 hb2'
  obtain ⟨a, n, ha⟩ : ∃ a n, applyT t e = (a, n) := ⟨_, _, rfl⟩
  have Ha := Lib.hid ha
  clear ha
  have hnq : (n == n) = true := beq_self_eq_true n
  go_wp2_with fail
  refine (dt_Apply_at I HI.out _ t Hv.out (sml_of Hg.out) Hok.out.srt (by omega) e _ _ Hva.out Hvx.out hwf (by omega) (by omega) Ha.out _ hok3).mono ?_
  rintro e4 w4 ⟨v4, I4, rfl, hb4, hx4, hok4, hr4⟩
  clear c0 c1 c2 c3 c4 c5 c6
  obtain ⟨c0, c1, c2, c3, c4, c5, c6⟩ := HB3.out.thru hb4
  have Hk := Lib.hid (hx4.keep hok3 (Nat.le_refl _))
  have Hap := Lib.hid (ref37_Apply I4 _ t (Hv.out.mono Hk.out) (sml_of Hg.out) (by omega) e _ _ (Hva.out.mono Hk.out) (Hvx.out.mono Hk.out) hwf (by omega) (by omega) w4 hok4)
  rw [Ha.out] at Hap
  obtain ⟨ao4, cap4, rfl, _, _, _⟩ := id hr4
  have Hr4 := Lib.hid hr4
  have hb4' := hb3'.trans (hb4.mono hs3)
  have hs4 := hb4'.size
  clear hb4 hb3' hr4 hx4 HB3
  go_wp2_with fail
  refine Hap.out.mono ?_
  rintro e5 w5 ⟨v5, I5, rfl, hb5, hx5, hok5, hr5⟩
  clear c0 c1 c2 c3 c4 c5 c6
  obtain ⟨ao5, cap5, rfl, _, _, _⟩ := id hr5
  have Hsa := Lib.hid (ref37_Same_eq I5 _ _ a (Hr4.out.mono (hx5.keep hok4 (Nat.le_refl _))) hr5 w5 hok5)
  have hb5' := hb4'.trans (hb5.mono hs4)
  have hs5 := hb5'.size
  clear hb5 hb4' hr5 hx5 Hr4
  go_wp2_with fail
  refine Hsa.out.mono ?_
  rintro e6 w6 ⟨rfl, hb6⟩
  go_wp2
  go_ret
  exact ⟨rfl, hb5'.trans (hb6.mono hs5)⟩

set_option maxRecDepth 100000 in
set_option maxHeartbeats 4000000 in
theorem law_DirtreeCommutes (I : IH) (hI : Glob I) (v : Value) (t : List Ent) (hv : RdS tEnt I v t) (ht : AllE t) (e : Ent) (va vx : Value) (hva : RdS tAt I va e.attrs) (hvx : RdS tXt I vx e.exts) (hwf : e.Wf) (f : Ent) (vc vy : Value) (hvc : RdS tAt I vc f.attrs) (hvy : RdS tXt I vy f.exts) (hwg : f.Wf) (w : World) (hw : Ok I w) :
    Calls Tryz.prog 4 #[v, entV e va vx, entV f vc vy] w fun r w' => r = .returned (.bool true) ∧ Below w.heap.size w w' := by
  have Hal := Lib.hid (fun w hw => law_alive37 I hI w hw)
  have Hri := Lib.hid (fun w hw => ref37_Right I _ t hv ht w hw)
  have Hsm := Lib.hid (fun w hw => law_small I e va vx hva hvx hwf w hw)
  have Hsn := Lib.hid (fun w hw => law_small I f vc vy hvc hvy hwg w hw)
  have HI := Lib.hid hI
  obtain ⟨ao, cap, rfl, hcap, hcm, _⟩ := id hv
  obtain ⟨aa, ca, rfl, _, _, _⟩ := id hva
  obtain ⟨ax, cx, rfl, _, _, _⟩ := id hvx
  obtain ⟨ac, cc, rfl, _, _, _⟩ := id hvc
  obtain ⟨ay, cy, rfl, _, _, _⟩ := id hvy
  have Hv := Lib.hid hv
  have Hva := Lib.hid hva
  have Hvx := Lib.hid hvx
  have Hvc := Lib.hid hvc
  have Hvy := Lib.hid hvy
  clear hv hva hvx hvc hvy hI
  go_enter Tryz.func4, Tryz.ntmps4
  go_wp2_with fail
  refine (Hal.out _ ((hw.alloc _).alloc _)).mono ?_
  rintro e1 w1 ⟨rfl, hb1⟩
  have HD1 := Lib.hid (entB (e := f) (n := w.heap.size + 1) (by simp) hb1)
  have HB1 := Lib.hid ((entB (e := e) (W := w) (t := 26) rfl ((Below.refl _ _).alloc (Nat.le_refl _) _)).thru hb1)
  have hok1 : Ok I w1 := ((hw.alloc _).alloc _).below (Nat.le_refl _) hb1
  have hsz1 : w.heap.size + 1 < w1.heap.size := by have := hb1.size; simp at this; omega
  have hb1' : Below w.heap.size w w1 := (((Below.refl _ _).alloc (Nat.le_refl _) _).alloc (by simp) _).trans (hb1.mono (by simp; omega))
  clear hb1
  rcases right_cases t with hr | ⟨hr, hl, hok, hg⟩
  · rw [hr] at Hri
    go_wp2_with fail
    refine (Hri.out _ hok1).mono ?_
    rintro e2 w2 ⟨rfl, hb2⟩
    go_wp2
    go_ret
    exact ⟨rfl, hb1'.trans (hb2.mono hb1'.size)⟩
  rw [hr] at Hri
  have Hok := Lib.hid hok
  have Hg := Lib.hid hg
  clear hok hg
  go_wp2_with fail
  refine (Hri.out _ hok1).mono ?_
  rintro e2 w2 ⟨rfl, hb2⟩
  have hok2 := hok1.below (Nat.le_refl _) hb2
  obtain ⟨c0, c1, c2, c3, c4, c5, c6⟩ := HB1.out.thru hb2
  obtain ⟨d0, d1, d2, d3, d4, d5, d6⟩ := HD1.out.thru hb2
  have HB2 := Lib.hid (HB1.out.thru hb2)
  have HD2 := Lib.hid (HD1.out.thru hb2)
  have hb2' := hb1'.trans (hb2.mono hb1'.size)
  clear hb1' HB1 HD1
  go_wp2_with fail
  refine (Hsm.out _ hok2).mono ?_
  rintro e3 w3 ⟨rfl, hb3⟩
  clear c0 c1 c2 c3 c4 c5 c6 d0 d1 d2 d3 d4 d5 d6
  have hok3 := hok2.below (Nat.le_refl _) hb3
  obtain ⟨c0, c1, c2, c3, c4, c5, c6⟩ := HB2.out.thru hb3
  obtain ⟨d0, d1, d2, d3, d4, d5, d6⟩ := HD2.out.thru hb3
  have HB3 := Lib.hid (HB2.out.thru hb3)
  have HD3 := Lib.hid (HD2.out.thru hb3)
  have hb3' := hb2'.trans (hb3.mono hb2'.size)
  clear hb2' HB2 HD2
  cases hge : greatE e
  case true =>
    go_wp2
    go_ret
    exact ⟨rfl, hb3'⟩
  have hne := great_no hge
  have Hge := Lib.hid hge
  clear hge
  go_wp2_with fail
  refine (Hsn.out _ hok3).mono ?_
  rintro e4 w4 ⟨rfl, hb4⟩
  clear c0 c1 c2 c3 c4 c5 c6 d0 d1 d2 d3 d4 d5 d6
  have hok4 := hok3.below (Nat.le_refl _) hb4
  obtain ⟨c0, c1, c2, c3, c4, c5, c6⟩ := HB3.out.thru hb4
  obtain ⟨d0, d1, d2, d3, d4, d5, d6⟩ := HD3.out.thru hb4
  have HB4 := Lib.hid (HB3.out.thru hb4)
  have HD4 := Lib.hid (HD3.out.thru hb4)
  have hb4' := hb3'.trans (hb4.mono hb3'.size)
  clear hb3' HB3 HD3
  cases hgf : greatE f
  case true =>
    go_wp2
    go_ret
    exact ⟨rfl, hb4'⟩
  have hnf := great_no hgf
  have Hgf := Lib.hid hgf
  clear hgf
  have Hu1 := Lib.hid (fun w hw => ref31_Under I e.path f.path w hw)
  have Hu2 := Lib.hid (fun w hw => ref31_Under I f.path e.path w hw)
  go_wp2_with fail
  refine (Hu1.out _ hok4).mono ?_
  rintro e5 w5 ⟨rfl, hb5⟩
  clear c0 c1 c2 c3 c4 c5 c6 d0 d1 d2 d3 d4 d5 d6
  have hok5 := hok4.below (Nat.le_refl _) hb5
  obtain ⟨c0, c1, c2, c3, c4, c5, c6⟩ := HB4.out.thru hb5
  obtain ⟨d0, d1, d2, d3, d4, d5, d6⟩ := HD4.out.thru hb5
  have HB5 := Lib.hid (HB4.out.thru hb5)
  have HD5 := Lib.hid (HD4.out.thru hb5)
  have hb5' := hb4'.trans (hb5.mono hb4'.size)
  clear hb4' HB4 HD4
  cases hu1 : under e.path f.path
  case true =>
    go_wp2
    go_ret
    exact ⟨rfl, hb5'⟩
  go_wp2_with fail
  refine (Hu2.out _ hok5).mono ?_
  rintro e6 w6 ⟨rfl, hb6⟩
  clear c0 c1 c2 c3 c4 c5 c6 d0 d1 d2 d3 d4 d5 d6
  have hok6 := hok5.below (Nat.le_refl _) hb6
  obtain ⟨c0, c1, c2, c3, c4, c5, c6⟩ := HB5.out.thru hb6
  obtain ⟨d0, d1, d2, d3, d4, d5, d6⟩ := HD5.out.thru hb6
  have HB6 := Lib.hid (HB5.out.thru hb6)
  have HD6 := Lib.hid (HD5.out.thru hb6)
  have hb6' := hb5'.trans (hb6.mono hb5'.size)
  clear hb5' HB5 HD5
  cases hu2 : under f.path e.path
  case true =>
    go_wp2
    go_ret
    exact ⟨rfl, hb6'⟩
  have HU := Lib.hid (And.intro hu1 hu2)
  clear hu1 hu2
  obtain ⟨a, n, ha⟩ : ∃ a n, applyT t e = (a, n) := ⟨_, _, rfl⟩
  have Ha := Lib.hid ha
  clear ha
  go_wp2_with fail
  refine (dt_Apply_at I HI.out _ t Hv.out (sml_of Hg.out) Hok.out.srt (by omega) e _ _ Hva.out Hvx.out hwf (by omega) (by omega) Ha.out _ hok6).mono ?_
  rintro e7 w7 ⟨v7, I7, rfl, hb7, hx7, hok7, hr7⟩
  clear c0 c1 c2 c3 c4 c5 c6 d0 d1 d2 d3 d4 d5 d6
  obtain ⟨c0, c1, c2, c3, c4, c5, c6⟩ := HB6.out.thru hb7
  obtain ⟨d0, d1, d2, d3, d4, d5, d6⟩ := HD6.out.thru hb7
  have HB7 := Lib.hid (HB6.out.thru hb7)
  have HD7 := Lib.hid (HD6.out.thru hb7)
  have hb7' := hb6'.trans (hb7.mono hb6'.size)
  clear hb6' HB6 HD6
  obtain ⟨ao7, cap7, rfl, _, _, _⟩ := id hr7
  have Hr7 := Lib.hid hr7
  have Hk := Lib.hid (hx7.keep hok6 (Nat.le_refl _))
  clear hr7 hx7 hb7
  by_cases hn0 : n = 0
  case neg =>
    have hn1 : (n != 0) = true := by simpa using hn0
    go_wp2
    go_ret
    exact ⟨rfl, hb7'⟩
  subst hn0
  have Ht1 := Lib.hid (applyT_ok Hok.out Ha.out)
  have hl1 := app_len Ha.out
  have Hs1 := Lib.hid (app_sml Hok.out (sml_of Hg.out) Hge.out Ha.out)
  obtain ⟨b, m, hb⟩ : ∃ b m, applyT a f = (b, m) := ⟨_, _, rfl⟩
  have Hb := Lib.hid hb
  clear hb
  have HI7 := Lib.hid (HI.out.mono Hk.out)
  have Hv7 := Lib.hid (Hv.out.mono Hk.out)
  have Hva7 := Lib.hid (Hva.out.mono Hk.out)
  have Hvx7 := Lib.hid (Hvx.out.mono Hk.out)
  have Hvc7 := Lib.hid (Hvc.out.mono Hk.out)
  have Hvy7 := Lib.hid (Hvy.out.mono Hk.out)
  clear HI Hv Hva Hvx Hvc Hvy Hk
  go_wp2_with fail
  refine (dt_Apply_at I7 HI7.out _ a Hr7.out Hs1.out Ht1.out.srt (by omega) f _ _ Hvc7.out Hvy7.out hwg (by omega) (by omega) Hb.out _ hok7).mono ?_
  rintro e8 w8 ⟨v8, I8, rfl, hb8, hx8, hok8, hr8⟩
  clear c0 c1 c2 c3 c4 c5 c6 d0 d1 d2 d3 d4 d5 d6
  obtain ⟨c0, c1, c2, c3, c4, c5, c6⟩ := HB7.out.thru hb8
  obtain ⟨d0, d1, d2, d3, d4, d5, d6⟩ := HD7.out.thru hb8
  have HB8 := Lib.hid (HB7.out.thru hb8)
  have HD8 := Lib.hid (HD7.out.thru hb8)
  have hb8' := hb7'.trans (hb8.mono hb7'.size)
  clear hb7' HB7 HD7
  obtain ⟨ao8, cap8, rfl, _, _, _⟩ := id hr8
  have Hr8 := Lib.hid hr8
  have Hk := Lib.hid (hx8.keep hok7 (Nat.le_refl _))
  clear hr8 hx8 hb8
  by_cases hn0 : m = 0
  case neg =>
    have hn1 : (m != 0) = true := by simpa using hn0
    go_wp2
    go_ret
    exact ⟨rfl, hb8'⟩
  subst hn0
  obtain ⟨c, hc, hd⟩ := apply_comm Hok.out hl HU.out.1 HU.out.2 Ha.out Hb.out
  have Hc := Lib.hid hc
  have Hd := Lib.hid hd
  have Ht2 := Lib.hid (applyT_ok Hok.out hc)
  have hl2 := app_len hc
  have Hs2 := Lib.hid (app_sml Hok.out (sml_of Hg.out) Hgf.out hc)
  clear hc hd
  have HI8 := Lib.hid (HI7.out.mono Hk.out)
  have Hv8 := Lib.hid (Hv7.out.mono Hk.out)
  have Hva8 := Lib.hid (Hva7.out.mono Hk.out)
  have Hvx8 := Lib.hid (Hvx7.out.mono Hk.out)
  have Hvc8 := Lib.hid (Hvc7.out.mono Hk.out)
  have Hvy8 := Lib.hid (Hvy7.out.mono Hk.out)
  clear HI7 Hv7 Hva7 Hvx7 Hvc7 Hvy7 Hk Hr7
  go_wp2_with fail
  refine (dt_Apply_at I8 HI8.out _ t Hv8.out (sml_of Hg.out) Hok.out.srt (by omega) f _ _ Hvc8.out Hvy8.out hwg (by omega) (by omega) Hc.out _ hok8).mono ?_
  rintro e9 w9 ⟨v9, I9, rfl, hb9, hx9, hok9, hr9⟩
  clear c0 c1 c2 c3 c4 c5 c6 d0 d1 d2 d3 d4 d5 d6
  obtain ⟨c0, c1, c2, c3, c4, c5, c6⟩ := HB8.out.thru hb9
  obtain ⟨d0, d1, d2, d3, d4, d5, d6⟩ := HD8.out.thru hb9
  have HB9 := Lib.hid (HB8.out.thru hb9)
  have HD9 := Lib.hid (HD8.out.thru hb9)
  have hb9' := hb8'.trans (hb9.mono hb8'.size)
  clear hb8' HB8 HD8
  obtain ⟨ao9, cap9, rfl, _, _, _⟩ := id hr9
  have Hr9 := Lib.hid hr9
  have Hk := Lib.hid (hx9.keep hok8 (Nat.le_refl _))
  clear hr9 hx9 hb9
  have HI9 := Lib.hid (HI8.out.mono Hk.out)
  have Hva9 := Lib.hid (Hva8.out.mono Hk.out)
  have Hvx9 := Lib.hid (Hvx8.out.mono Hk.out)
  have Hr89 := Lib.hid (Hr8.out.mono Hk.out)
  clear HI8 Hv8 Hva8 Hvx8 Hvc8 Hvy8 Hk Hr8
  go_wp2_with fail
  refine (dt_Apply_at I9 HI9.out _ c Hr9.out Hs2.out Ht2.out.srt (by omega) e _ _ Hva9.out Hvx9.out hwf (by omega) (by omega) Hd.out _ hok9).mono ?_
  rintro e10 w10 ⟨v10, I10, rfl, hb10, hx10, hok10, hr10⟩
  clear c0 c1 c2 c3 c4 c5 c6 d0 d1 d2 d3 d4 d5 d6
  obtain ⟨ao10, cap10, rfl, _, _, _⟩ := id hr10
  have Hsa := Lib.hid (ref37_Same_eq I10 _ _ b (Hr89.out.mono (hx10.keep hok9 (Nat.le_refl _))) hr10 w10 hok10)
  have hb10' := hb9'.trans (hb10.mono hb9'.size)
  clear hr10 hx10 hb10
  go_wp2_with fail
  refine Hsa.out.mono ?_
  rintro e11 w11 ⟨rfl, hb11⟩
  go_wp2
  go_ret
  exact ⟨rfl, hb10'.trans (hb11.mono hb10'.size)⟩
end Go.Proofs.YtcbmdghnlbieeaaGreatDoor
namespace Go.Proofs.YtcbmdghnlbieeaaGreatDoor
open Go.RowKit

theorem sumP_full (s : Bytes) : (sumP s).length = 32 := by
  have h8 : (sumWords s).length = 8 := compressP_length ..
  have h4 : ∀ L : List Int, (L.flatMap wordBytes).length = 4 * L.length := by
    intro L
    induction L with
    | nil => rfl
    | cons x L ih => rw [List.flatMap_cons, List.length_append, ih]; simp [wordBytes]; omega
  unfold sumP outTo
  rw [List.length_map, h4]
  simp [h8]
theorem merkP_full (n : Nat) (t : List Ent) (x : Ent) : (merkP sumP (n + 1) t x).length = 32 := by
  by_cases h : x.kind = 2
  · rw [merk_dir sumP n t h, sumP_full]
  · rw [merk_leaf sumP n t h, sumP_full]
theorem ref36_Equal_self (I : IH) (a : Ent) (va vx vb vy : Value) (hva : RdS tAt I va a.attrs) (hvx : RdS tXt I vx a.exts) (hvb : RdS tAt I vb a.attrs) (hvy : RdS tXt I vy a.exts) (w : World) (hw : Ok I w) :
    Calls Tryz.prog 23 #[entV a va vx, entV a vb vy] w fun e w' => e = .returned (.bool true) ∧ Below w.heap.size w w' := by
  have h := ref36_Equal I a a va vx vb vy hva hvx hvb hvy w hw
  rwa [decide_eq_true rfl] at h

set_option maxRecDepth 100000 in
set_option maxHeartbeats 4000000 in
theorem law_DirtreeQueries (I : IH) (hI : Glob I) (v : Value) (t : List Ent) (hv : RdS tEnt I v t) (ht : AllE t) (p : Bytes) (hpl : p.length ≤ 9223372036854775807) (w : World) (hw : Ok I w) :
    Calls Tryz.prog 7 #[v, S p] w fun r w' => r = .returned (.bool true) ∧ Below w.heap.size w w' := by
  have Hal := Lib.hid (fun w hw => law_alive37 I hI w hw)
  have Hri := Lib.hid (fun w hw => ref37_Right I _ t hv ht w hw)
  have HI := Lib.hid hI
  obtain ⟨ao, cap, rfl, hcap, hcm, _⟩ := id hv
  have Hv := Lib.hid hv
  clear hv hI
  go_enter Tryz.func7, Tryz.ntmps7
  go_wp2_with fail
  refine (Hal.out _ hw).mono ?_
  rintro e1 w1 ⟨rfl, hb1⟩
  have hok1 : Ok I w1 := hw.below (Nat.le_refl _) hb1
  rcases right_cases t with hr | ⟨hr, hl, hok, hg⟩
  · rw [hr] at Hri
    go_wp2_with fail
    refine (Hri.out _ hok1).mono ?_
    rintro e2 w2 ⟨rfl, hb2⟩
    go_wp2
    go_ret
    exact ⟨rfl, hb1.trans (hb2.mono hb1.size)⟩
  rw [hr] at Hri
  have HT := Lib.hid (dgT_of hok (by omega))
  clear hok hg hr
  by_cases hp : 300 < p.length
  · have hd : decide ((300 : Int) < p.length) = true := decide_eq_true (by omega)
    go_wp2_with fail
    refine (Hri.out _ hok1).mono ?_
    rintro e2 w2 ⟨rfl, hb2⟩
    go_wp2
    go_ret
    exact ⟨rfl, hb1.trans (hb2.mono hb1.size)⟩
  have hd : decide ((300 : Int) < p.length) = false := decide_eq_false (by omega)
  have Hg1 := Lib.hid (fun w hw => dt_Get I _ t Hv.out p w hw)
  have Hg2 := Lib.hid (fun w hw => ref37_Get I _ t Hv.out p w hw)
  have Hl1 := Lib.hid (fun w hw => dt_List I HI.out _ t Hv.out HT.out.sml HT.out.len p w hw)
  have Hl2 := Lib.hid (fun J hI hv w hw => ref37_List J hI (.slice ao t.length cap) t hv HT.out.sml HT.out.len p w hw)
  have Hd1 := Lib.hid (fun J hI hv w hw => dt_Digest J hI (.slice ao t.length cap) t hv HT.out p w hw)
  have Hd2 := Lib.hid (fun J hI hv w hw => ref37_Digest J hI (.slice ao t.length cap) t hv HT.out p w hw)
  generalize getE t p = g at Hg1 Hg2
  generalize listE t p = li at Hl1 Hl2
  generalize digE t p = di at Hd1 Hd2
  obtain ⟨x, ok⟩ := g
  obtain ⟨l, n⟩ := li
  obtain ⟨d, m⟩ := di
  have q1 : (ok == ok) = true := beq_self_eq_true ok
  have q2 : (n == n) = true := beq_self_eq_true n
  have q3 : (d == d) = true := beq_self_eq_true d
  have q4 : (m == m) = true := beq_self_eq_true m
  go_wp2_with fail
  refine (Hri.out _ hok1).mono ?_
  rintro e2 w2 ⟨rfl, hb2⟩
  have hok2 : Ok I w2 := hok1.below (Nat.le_refl _) hb2
  have hb2' := hb1.trans (hb2.mono hb1.size)
  clear hb1 hb2
  go_wp2_with fail
  refine (Hg1.out _ hok2).mono ?_
  rintro e3 w3 ⟨va, vx, rfl, h1, h2, hb3⟩
  obtain ⟨aa, ca, rfl, _, _, _⟩ := id h1
  obtain ⟨ax, cx, rfl, _, _, _⟩ := id h2
  have Hx1 := Lib.hid h1
  have Hx2 := Lib.hid h2
  have HX := Lib.hid (entB (n := w3.heap.size) (e := x) (va := .slice aa x.attrs.length ca) (vx := .slice ax x.exts.length cx) (t := 26) rfl (Below.refl _ _))
  have hb3' := (hb2'.trans (hb3.mono hb2'.size)).alloc (hb2'.trans (hb3.mono hb2'.size)).size (.cells #[.int .i64 x.kind, S x.path, .slice aa x.attrs.length ca, S x.target, .int .i64 x.size, S x.digest, .slice ax x.exts.length cx] 26)
  have hok3 : Ok I (w3.alloc (.cells #[.int .i64 x.kind, S x.path, .slice aa x.attrs.length ca, S x.target, .int .i64 x.size, S x.digest, .slice ax x.exts.length cx] 26)) := (hok2.below (Nat.le_refl _) hb3).alloc _
  clear hb3 hb2' h1 h2
  go_wp2_with fail
  refine (Hg2.out _ hok3).mono ?_
  rintro e4 w4 ⟨vb, vy, rfl, h1, h2, hb4⟩
  obtain ⟨ab, cb, rfl, _, _, _⟩ := id h1
  obtain ⟨ay, cy, rfl, _, _, _⟩ := id h2
  have Hy1 := Lib.hid h1
  have Hy2 := Lib.hid h2
  have HX4 := Lib.hid ((HX.out.thru hb4).past (.cells #[.int .i64 x.kind, S x.path, .slice ab x.attrs.length cb, S x.target, .int .i64 x.size, S x.digest, .slice ay x.exts.length cy] 26))
  have HY := Lib.hid (entB (n := w4.heap.size) (e := x) (va := .slice ab x.attrs.length cb) (vx := .slice ay x.exts.length cy) (t := 26) rfl (Below.refl _ _))
  have hb4' := (hb3'.trans (hb4.mono hb3'.size)).alloc (hb3'.trans (hb4.mono hb3'.size)).size (.cells #[.int .i64 x.kind, S x.path, .slice ab x.attrs.length cb, S x.target, .int .i64 x.size, S x.digest, .slice ay x.exts.length cy] 26)
  have hok4 : Ok I (w4.alloc (.cells #[.int .i64 x.kind, S x.path, .slice ab x.attrs.length cb, S x.target, .int .i64 x.size, S x.digest, .slice ay x.exts.length cy] 26)) := (hok3.below (Nat.le_refl _) hb4).alloc _
  clear hb4 hb3' h1 h2 HX
  go_wp2_with fail
  refine (Hl1.out _ hok4).mono ?_
  rintro e5 w5 ⟨v5, I5, rfl, hb5, hx5, hok5, hr5⟩
  obtain ⟨a5, c5, rfl, _, _, _⟩ := id hr5
  have Hr5 := Lib.hid hr5
  have HK5 := Lib.hid (hx5.keep hok4 (Nat.le_refl _))
  have HX5 := Lib.hid (HX4.out.thru hb5)
  have HY5 := Lib.hid (HY.out.thru hb5)
  have hb5' := hb4'.trans (hb5.mono hb4'.size)
  have HI5 := Lib.hid (HI.out.mono HK5.out)
  have Hv5 := Lib.hid (Hv.out.mono HK5.out)
  clear hb5 hb4' hr5 hx5 HX4 HY
  go_wp2_with fail
  refine (Hl2.out I5 HI5.out Hv5.out _ hok5).mono ?_
  rintro e6 w6 ⟨v6, I6, rfl, hb6, hx6, hok6, hr6⟩
  obtain ⟨a6, c6, rfl, _, _, _⟩ := id hr6
  have Hr6 := Lib.hid hr6
  have HK6 := Lib.hid (hx6.keep hok5 (Nat.le_refl _))
  have HX6 := Lib.hid (HX5.out.thru hb6)
  have HY6 := Lib.hid (HY5.out.thru hb6)
  have hb6' := hb5'.trans (hb6.mono hb5'.size)
  have HI6 := Lib.hid (HI5.out.mono HK6.out)
  have Hv6 := Lib.hid (Hv5.out.mono HK6.out)
  clear hb6 hb5' hr6 hx6 HX5 HY5
  go_wp2_with fail
  refine (Hd1.out I6 HI6.out Hv6.out _ hok6).mono ?_
  rintro e7 w7 ⟨rfl, hb7⟩
  have HX7 := Lib.hid (HX6.out.thru hb7)
  have HY7 := Lib.hid (HY6.out.thru hb7)
  have hok7 : Ok I6 w7 := hok6.below (Nat.le_refl _) hb7
  have hb7' := hb6'.trans (hb7.mono hb6'.size)
  clear hb7 hb6' HX6 HY6
  go_wp2_with fail
  refine (Hd2.out I6 HI6.out Hv6.out _ hok7).mono ?_
  rintro e8 w8 ⟨rfl, hb8⟩
  have hok8 : Ok I6 w8 := hok7.below (Nat.le_refl _) hb8
  have hb8' := hb7'.trans (hb8.mono hb7'.size)
  obtain ⟨x0, x1, x2, x3, x4, x5, x6⟩ := HX7.out.thru hb8
  obtain ⟨y0, y1, y2, y3, y4, y5, y6⟩ := HY7.out.thru hb8
  have Heq := Lib.hid (fun w hw => ref36_Equal_self I6 x _ _ _ _ ((Hx1.out.mono HK5.out).mono HK6.out) ((Hx2.out.mono HK5.out).mono HK6.out) ((Hy1.out.mono HK5.out).mono HK6.out) ((Hy2.out.mono HK5.out).mono HK6.out) w hw)
  have Hsa := Lib.hid (fun w hw => ref37_Same_eq I6 _ _ l (Hr5.out.mono HK6.out) Hr6.out w hw)
  clear hb8 hb7' HX7 HY7
  go_wp2_with fail
  refine (Heq.out _ hok8).mono ?_
  rintro e9 w9 ⟨rfl, hb9⟩
  have hok9 : Ok I6 w9 := hok8.below (Nat.le_refl _) hb9
  have hb9' := hb8'.trans (hb9.mono hb8'.size)
  clear x0 x1 x2 x3 x4 x5 x6 y0 y1 y2 y3 y4 y5 y6 hb9 hb8'
  go_wp2_with fail
  refine (Hsa.out _ hok9).mono ?_
  rintro e10 w10 ⟨rfl, hb10⟩
  go_wp2
  go_ret
  exact ⟨rfl, hb9'.trans (hb10.mono hb9'.size)⟩
end Go.Proofs.YtcbmdghnlbieeaaGreatDoor
