/-
  The law AttributeMergeLaws: its walk.
-/
import Derived.Test.YtnnhgmpdfjljbaaDoorPlM
import Derived.BigRegion
namespace Go.Proofs.YtnnhgmpdfjljbaaDoor
open Go.RowKit

set_option maxRecDepth 100000 in
set_option maxHeartbeats 4000000 in
theorem law_AttributeMergeLaws (I : IH) (va vb vc : Value) (a b c : List At) (hva : RdS tAt I va a) (ha : AllWf a) (hvb : RdS tAt I vb b) (hb : AllWf b) (hvc : RdS tAt I vc c) (hc : AllWf c) (w : World) (hw : Ok I w) :
    Calls Tryd.prog 6 #[va, vb, vc] w fun e w' => e = .returned (.bool true) ∧ Below w.heap.size w w' := by
  obtain ⟨ao, cap, rfl, hcap, hcm, _⟩ := id hva
  obtain ⟨ao2, cap2, rfl, hcap2, hcm2, _⟩ := id hvb
  obtain ⟨ao3, cap3, rfl, hcap3, hcm3, _⟩ := id hvc
  have Hva := Lib.hid hva
  have Ha := Lib.hid ha
  have Hvb := Lib.hid hvb
  have Hb := Lib.hid hb
  have Hvc := Lib.hid hvc
  have Hc := Lib.hid hc
  clear hva ha hvb hb hvc hc
  go_enter Tryd.func6, Tryd.ntmps6
  go_wp2_with fail
  refine (law_alive32 I _ hw).mono ?_
  rintro e w1 ⟨rfl, hb1⟩
  have hok1 : Ok I w1 := hw.below (Nat.le_refl _) hb1
  go_wp2_with fail
  refine (ref32_Great I _ a Hva.out Ha.out _ hok1).mono ?_
  rintro e w2 ⟨rfl, hb2⟩
  have hok2 : Ok I w2 := hok1.below (Nat.le_refl _) hb2
  have hb2' := hb1.trans (hb2.mono hb1.size)
  clear hb1 hb2
  rcases great_cases a with hg | ⟨hg, hln⟩
  · rw [hg]
    go_wp2
    go_ret
    exact ⟨rfl, hb2'⟩
  rw [hg]
  go_wp2_with fail
  refine (ref32_Great I _ b Hvb.out Hb.out _ hok2).mono ?_
  rintro e w3 ⟨rfl, hb3⟩
  have hok3 : Ok I w3 := hok2.below (Nat.le_refl _) hb3
  have hb3' := hb2'.trans (hb3.mono hb2'.size)
  clear hb2' hb3
  rcases great_cases b with hg2 | ⟨hg2, hln2⟩
  · rw [hg2]
    go_wp2
    go_ret
    exact ⟨rfl, hb3'⟩
  rw [hg2]
  go_wp2_with fail
  refine (ref32_Great I _ c Hvc.out Hc.out _ hok3).mono ?_
  rintro e w4 ⟨rfl, hb4⟩
  have hok4 : Ok I w4 := hok3.below (Nat.le_refl _) hb4
  have hb4' := hb3'.trans (hb4.mono hb3'.size)
  clear hb3' hb4
  rcases great_cases c with hg3 | ⟨hg3, hln3⟩
  · rw [hg3]
    go_wp2
    go_ret
    exact ⟨rfl, hb4'⟩
  rw [hg3]
  go_wp2_with fail
  refine (at_Check I _ a Hva.out Ha.out _ hok4).mono ?_
  rintro e w5 ⟨rfl, hb5⟩
  have hok5 : Ok I w5 := hok4.below (Nat.le_refl _) hb5
  have hb5' := hb4'.trans (hb5.mono hb4'.size)
  clear hb4' hb5
  by_cases h0 : chk a = 0
  case neg =>
    obtain ⟨q, hq⟩ : ∃ q, chk a = q := ⟨_, rfl⟩
    have hn0 : (q != 0) = true := by rw [← hq]; simpa using h0
    rw [hq]
    clear hq h0
    go_wp2
    go_ret
    exact ⟨rfl, hb5'⟩
  have H1 := Lib.hid (mrg_self h0)
  have H2 := Lib.hid (mrg_nil_r h0)
  have H3 := Lib.hid (mrg_nil_l h0)
  have H4 := Lib.hid (mrg_one h0)
  rw [h0]
  clear h0
  go_wp2_with fail
  refine (at_Merge I _ _ a a Hva.out Ha.out Hva.out Ha.out _ hok5).mono ?_
  rw [H1.out]
  rintro e w6 ⟨v6, I6, rfl, hb6, hx6, hok6, hr6⟩
  have hb6' := hb5'.trans (hb6.mono hb5'.size)
  have c6 := hx6.keep hok5 (Nat.le_refl _)
  have Hr6 := Lib.hid hr6
  have Hva6 := Lib.hid (Hva.out.mono c6)
  have Hvb6 := Lib.hid (Hvb.out.mono c6)
  have Hvc6 := Lib.hid (Hvc.out.mono c6)
  clear hr6 hb6 c6
  go_wp2_with fail
  refine (at_Merge I6 _ _ a [] Hva6.out Ha.out (RdS.nil _ _) (by simp) _ hok6).mono ?_
  rw [H2.out]
  rintro e w7 ⟨v7, I7, rfl, hb7, hx7, hok7, hr7⟩
  have hb7' := hb6'.trans (hb7.mono hb6'.size)
  have c7 := hx7.keep hok6 (Nat.le_refl _)
  have Hr7 := Lib.hid hr7
  have Hr67 := Lib.hid (Hr6.out.mono c7)
  have Hva7 := Lib.hid (Hva6.out.mono c7)
  have Hvb7 := Lib.hid (Hvb6.out.mono c7)
  have Hvc7 := Lib.hid (Hvc6.out.mono c7)
  clear hr7 hb7 c7
  go_wp2_with fail
  refine (at_Merge I7 _ _ [] a (RdS.nil _ _) (by simp) Hva7.out Ha.out _ hok7).mono ?_
  rw [H3.out]
  rintro e w8 ⟨v8, I8, rfl, hb8, hx8, hok8, hr8⟩
  have hb8' := hb7'.trans (hb8.mono hb7'.size)
  have c8 := hx8.keep hok7 (Nat.le_refl _)
  have Hr8 := Lib.hid hr8
  have Hr68 := Lib.hid (Hr67.out.mono c8)
  have Hr78 := Lib.hid (Hr7.out.mono c8)
  have Hva8 := Lib.hid (Hva7.out.mono c8)
  have Hvb8 := Lib.hid (Hvb7.out.mono c8)
  have Hvc8 := Lib.hid (Hvc7.out.mono c8)
  clear hr8 hb8 c8
  go_wp2_with fail
  refine (same_eq I8 _ _ a Hr68.out Hva8.out _ hok8).mono ?_
  rintro e w9 ⟨rfl, hb9⟩
  have hok9 : Ok I8 w9 := hok8.below (Nat.le_refl _) hb9
  have hb9' := hb8'.trans (hb9.mono hb8'.size)
  clear hb9
  go_wp2_with fail
  refine (same_eq I8 _ _ a Hr78.out Hva8.out _ hok9).mono ?_
  rintro e w10 ⟨rfl, hb10⟩
  have hok10 : Ok I8 w10 := hok9.below (Nat.le_refl _) hb10
  have hb10' := hb9'.trans (hb10.mono hb9'.size)
  clear hb10
  go_wp2_with fail
  refine (same_eq I8 _ _ a Hr8.out Hva8.out _ hok10).mono ?_
  rintro e w11 ⟨rfl, hb11⟩
  have hok11 : Ok I8 w11 := hok10.below (Nat.le_refl _) hb11
  have hb11' := hb10'.trans (hb11.mono hb10'.size)
  clear hb11
  by_cases hone : b.length = 1
  case neg =>
    have hd1 : ((b.length : Int) == 1) = false := by rw [beq_eq_false_iff_ne]; omega
    clear hone
    obtain ⟨AB, n1, hAB⟩ : ∃ A n, mergeA a b = (A, n) := ⟨_, _, rfl⟩
    obtain ⟨BC, n2, hBC⟩ : ∃ A n, mergeA b c = (A, n) := ⟨_, _, rfl⟩
    have HAB := Lib.hid hAB
    have HBC := Lib.hid hBC
    clear hAB hBC
    go_wp2_with fail
    refine (at_Merge I8 _ _ a b Hva8.out Ha.out Hvb8.out Hb.out _ hok11).mono ?_
    rw [HAB.out]
    rintro e wm ⟨vm, Im, rfl, hbm, hxm, hokm, hrm⟩
    have hbm' := hb11'.trans (hbm.mono hb11'.size)
    have cm := hxm.keep hok11 (Nat.le_refl _)
    have Hrm := Lib.hid hrm
    have Hvam := Lib.hid (Hva8.out.mono cm)
    have Hvbm := Lib.hid (Hvb8.out.mono cm)
    have Hvcm := Lib.hid (Hvc8.out.mono cm)
    clear hrm hbm cm
    go_wp2_with fail
    refine (at_Merge Im _ _ b c Hvbm.out Hb.out Hvcm.out Hc.out _ hokm).mono ?_
    rw [HBC.out]
    rintro e wn ⟨vn, In, rfl, hbn, hxn, hokn, hrn⟩
    have hbn' := hbm'.trans (hbn.mono hbm'.size)
    have cn := hxn.keep hokm (Nat.le_refl _)
    have Hrn := Lib.hid hrn
    have Hrmn := Lib.hid (Hrm.out.mono cn)
    have Hvan := Lib.hid (Hvam.out.mono cn)
    have Hvcn := Lib.hid (Hvcm.out.mono cn)
    clear hrn hbn cn
    by_cases hz1 : n1 = 0
    case neg =>
      have f1 : (n1 != 0) = true := by simpa using hz1
      clear hz1
      go_wp2
      go_ret
      exact ⟨rfl, hbn'⟩
    subst hz1
    by_cases hz2 : n2 = 0
    case neg =>
      have f2 : (n2 != 0) = true := by simpa using hz2
      clear hz2
      go_wp2
      go_ret
      exact ⟨rfl, hbn'⟩
    subst hz2
    obtain ⟨R, n3, hR⟩ : ∃ A n, mergeA AB c = (A, n) := ⟨_, _, rfl⟩
    have HR2 := Lib.hid (show mergeA a BC = (R, n3) by rw [← mrg_assoc HAB.out HBC.out, hR])
    have HR := Lib.hid hR
    clear hR
    have HWab := Lib.hid (mrg_wf HAB.out Ha.out Hb.out)
    have HWbc := Lib.hid (mrg_wf HBC.out Hb.out Hc.out)
    go_wp2_with fail
    refine (at_Merge In _ _ AB c Hrmn.out HWab.out Hvcn.out Hc.out _ hokn).mono ?_
    rw [HR.out]
    rintro e wo ⟨vo, Io, rfl, hbo, hxo, hoko, hro⟩
    have hbo' := hbn'.trans (hbo.mono hbn'.size)
    have co := hxo.keep hokn (Nat.le_refl _)
    have Hro := Lib.hid hro
    have Hrno := Lib.hid (Hrn.out.mono co)
    have Hvao := Lib.hid (Hvan.out.mono co)
    clear hro hbo co
    go_wp2_with fail
    refine (at_Merge Io _ _ a BC Hvao.out Ha.out Hrno.out HWbc.out _ hoko).mono ?_
    rw [HR2.out]
    rintro e wp ⟨vp, Ip, rfl, hbp, hxp, hokp, hrp⟩
    have hbp' := hbo'.trans (hbp.mono hbo'.size)
    have cp := hxp.keep hoko (Nat.le_refl _)
    have Hrp := Lib.hid hrp
    have Hrop := Lib.hid (Hro.out.mono cp)
    clear hrp hbp cp
    go_wp2_with fail
    refine (same_eq Ip _ _ R Hrop.out Hrp.out _ hokp).mono ?_
    rintro e wq ⟨rfl, hbq⟩
    go_wp2
    go_ret
    exact ⟨rfl, hbp'.trans (hbq.mono hbp'.size)⟩
  obtain ⟨x, rfl⟩ := List.length_eq_one_iff.1 hone
  clear hone
  obtain ⟨R0, n0, hR0⟩ : ∃ A n, mergeA a [x] = (A, n) := ⟨_, _, rfl⟩
  have HS0 := Lib.hid (show setA a x = (R0, n0) by rw [← H4.out x, hR0])
  have HR0 := Lib.hid hR0
  clear hR0
  go_wp2_with fail
  refine (at_Merge I8 _ _ a [x] Hva8.out Ha.out Hvb8.out Hb.out _ hok11).mono ?_
  rw [HR0.out]
  rintro e w12 ⟨v12, I12, rfl, hb12, hx12, hok12, hr12⟩
  have hb12' := hb11'.trans (hb12.mono hb11'.size)
  have c12 := hx12.keep hok11 (Nat.le_refl _)
  have Hr12 := Lib.hid hr12
  have Hva12 := Lib.hid (Hva8.out.mono c12)
  have Hvb12 := Lib.hid (Hvb8.out.mono c12)
  have Hvc12 := Lib.hid (Hvc8.out.mono c12)
  clear hr12 hb12 c12
  obtain ⟨x', bb, off, cap', hlx, hvv, hc0, hc1⟩ := atAt Hvb12.out hok12 0 (by simp)
  cases hvv
  have hxx : x = x' := by simpa using hlx
  subst hxx
  simp only [Nat.zero_mul, Nat.add_zero] at hc0 hc1
  clear hlx
  have g0 := cell_regrown hc0
  have g1 := cell_regrown hc1
  have Hx1 := Lib.hid (Hb.out x (by simp))
  have hok12d : Ok I12 w12.drew := hok12
  go_upto_region 12 with fail
  go_region_law (go_simp; go_at_call 12; refine (at_Set I12 _ a Hva12.out Ha.out x Hx1.out _ hok12d).mono ?_; rw [HS0.out]; rintro e w14 ⟨v14, I14, rfl, hb14, hx14, hok14, hr14⟩)
  all_goals
    have hb14' := hb12'.drew.trans (hb14.mono hb12'.size)
    have c14 := hx14.keep hok12d (Nat.le_refl _)
    have Hr14 := Lib.hid hr14
    have Hr124 := Lib.hid (Hr12.out.mono c14)
    have Hva14 := Lib.hid (Hva12.out.mono c14)
    have Hvb14 := Lib.hid (Hvb12.out.mono c14)
    have Hvc14 := Lib.hid (Hvc12.out.mono c14)
    clear hr14 hb14 c14
    have fne : (n0 != n0) = false := by simp
    go_wp2_with fail
    refine (same_eq I14 _ _ R0 Hr124.out Hr14.out _ hok14).mono ?_
    rintro e w15 ⟨rfl, hb15⟩
    have hok15 : Ok I14 w15 := hok14.below (Nat.le_refl _) hb15
    have hb15' := hb14'.trans (hb15.mono hb14'.size)
    clear hb15
    obtain ⟨AB, n1, hAB⟩ : ∃ A n, mergeA a [x] = (A, n) := ⟨_, _, rfl⟩
    obtain ⟨BC, n2, hBC⟩ : ∃ A n, mergeA [x] c = (A, n) := ⟨_, _, rfl⟩
    have HAB := Lib.hid hAB
    have HBC := Lib.hid hBC
    clear hAB hBC
    go_wp2_with fail
    refine (at_Merge I14 _ _ a [x] Hva14.out Ha.out Hvb14.out Hb.out _ hok15).mono ?_
    rw [HAB.out]
    rintro e wm ⟨vm, Im, rfl, hbm, hxm, hokm, hrm⟩
    have hbm' := hb15'.trans (hbm.mono hb15'.size)
    have cm := hxm.keep hok15 (Nat.le_refl _)
    have Hrm := Lib.hid hrm
    have Hvam := Lib.hid (Hva14.out.mono cm)
    have Hvbm := Lib.hid (Hvb14.out.mono cm)
    have Hvcm := Lib.hid (Hvc14.out.mono cm)
    clear hrm hbm cm
    go_wp2_with fail
    refine (at_Merge Im _ _ [x] c Hvbm.out Hb.out Hvcm.out Hc.out _ hokm).mono ?_
    rw [HBC.out]
    rintro e wn ⟨vn, In, rfl, hbn, hxn, hokn, hrn⟩
    have hbn' := hbm'.trans (hbn.mono hbm'.size)
    have cn := hxn.keep hokm (Nat.le_refl _)
    have Hrn := Lib.hid hrn
    have Hrmn := Lib.hid (Hrm.out.mono cn)
    have Hvan := Lib.hid (Hvam.out.mono cn)
    have Hvcn := Lib.hid (Hvcm.out.mono cn)
    clear hrn hbn cn
    by_cases hz1 : n1 = 0
    case neg =>
      have f1 : (n1 != 0) = true := by simpa using hz1
      clear hz1
      go_wp2
      go_ret
      exact ⟨rfl, hbn'⟩
    subst hz1
    by_cases hz2 : n2 = 0
    case neg =>
      have f2 : (n2 != 0) = true := by simpa using hz2
      clear hz2
      go_wp2
      go_ret
      exact ⟨rfl, hbn'⟩
    subst hz2
    obtain ⟨R, n3, hR⟩ : ∃ A n, mergeA AB c = (A, n) := ⟨_, _, rfl⟩
    have HR2 := Lib.hid (show mergeA a BC = (R, n3) by rw [← mrg_assoc HAB.out HBC.out, hR])
    have HR := Lib.hid hR
    clear hR
    have HWab := Lib.hid (mrg_wf HAB.out Ha.out Hb.out)
    have HWbc := Lib.hid (mrg_wf HBC.out Hb.out Hc.out)
    go_wp2_with fail
    refine (at_Merge In _ _ AB c Hrmn.out HWab.out Hvcn.out Hc.out _ hokn).mono ?_
    rw [HR.out]
    rintro e wo ⟨vo, Io, rfl, hbo, hxo, hoko, hro⟩
    have hbo' := hbn'.trans (hbo.mono hbn'.size)
    have co := hxo.keep hokn (Nat.le_refl _)
    have Hro := Lib.hid hro
    have Hrno := Lib.hid (Hrn.out.mono co)
    have Hvao := Lib.hid (Hvan.out.mono co)
    clear hro hbo co
    go_wp2_with fail
    refine (at_Merge Io _ _ a BC Hvao.out Ha.out Hrno.out HWbc.out _ hoko).mono ?_
    rw [HR2.out]
    rintro e wp ⟨vp, Ip, rfl, hbp, hxp, hokp, hrp⟩
    have hbp' := hbo'.trans (hbp.mono hbo'.size)
    have cp := hxp.keep hoko (Nat.le_refl _)
    have Hrp := Lib.hid hrp
    have Hrop := Lib.hid (Hro.out.mono cp)
    clear hrp hbp cp
    go_wp2_with fail
    refine (same_eq Ip _ _ R Hrop.out Hrp.out _ hokp).mono ?_
    rintro e wq ⟨rfl, hbq⟩
    go_wp2
    go_ret
    exact ⟨rfl, hbp'.trans (hbq.mono hbp'.size)⟩
end Go.Proofs.YtnnhgmpdfjljbaaDoor
