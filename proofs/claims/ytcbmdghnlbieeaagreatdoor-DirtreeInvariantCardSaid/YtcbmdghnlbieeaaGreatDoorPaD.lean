/-
  Walks of the reference's layer 31: Under, Compare.
-/
import Derived.Test.YtcbmdghnlbieeaaGreatDoorPaC
namespace Go.Proofs.YtcbmdghnlbieeaaGreatDoor
open Go.RowKit

theorem prefix_take (l d : List Bytes) : d.isPrefixOf l = decide (l.take d.length = d) := by
  rw [Bool.eq_iff_iff, List.isPrefixOf_iff_prefix, decide_eq_true_iff, List.prefix_iff_eq_take]
  exact ⟨fun h => h.symm, fun h => h.symm⟩
theorem prefix_short {l d : List Bytes} (h : l.length < d.length) : d.isPrefixOf l = false := by
  cases hp : d.isPrefixOf l with
  | false => rfl
  | true => have := (List.isPrefixOf_iff_prefix.1 hp).length_le; omega

set_option maxRecDepth 100000 in
set_option maxHeartbeats 1000000 in
theorem ref31_Under (I : IH) (p d : Bytes) (w : World) (hw : Ok I w) :
    Calls Tryz.prog 18 #[S p, S d] w fun e w' => e = .returned (.bool (under p d)) ∧ Below w.heap.size w w' := by
  have Hcp := Lib.hid (fun w hw => ref31_Check I p w hw)
  have Hcd := Lib.hid (fun w hw => ref31_Check I d w hw)
  by_cases h0 : pathErr p = 0
  case neg =>
    have Hu := Lib.hid (show under p d = false by rw [under, decide_eq_false h0]; rfl)
    obtain ⟨q, hq⟩ : ∃ q, pathErr p = q := ⟨_, rfl⟩
    have hn : (q != 0) = true := by rw [← hq]; simpa using h0
    rw [hq] at Hcp
    clear hq h0
    go_enter Tryz.func18, Tryz.ntmps18
    go_wp2_with fail
    refine (Hcp.out _ hw).mono ?_
    rintro e w1 ⟨rfl, hb1⟩
    go_wp2
    go_ret
    exact ⟨ret_b Hu.out.symm, hb1⟩
  by_cases h1 : pathErr d = 0
  case neg =>
    have Hu := Lib.hid (show under p d = false by rw [under, decide_eq_false h1, Bool.and_false]; rfl)
    obtain ⟨q, hq⟩ : ∃ q, pathErr d = q := ⟨_, rfl⟩
    have hn : (q != 0) = true := by rw [← hq]; simpa using h1
    rw [hq] at Hcd
    rw [h0] at Hcp
    clear hq h1 h0
    go_enter Tryz.func18, Tryz.ntmps18
    go_wp2_with fail
    refine (Hcp.out _ hw).mono ?_
    rintro e w1 ⟨rfl, hb1⟩
    go_wp2_with fail
    refine (Hcd.out _ (hw.below (Nat.le_refl _) hb1)).mono ?_
    rintro e w2 ⟨rfl, hb2⟩
    go_wp2
    go_ret
    exact ⟨ret_b Hu.out.symm, hb1.trans (hb2.mono hb1.size)⟩
  have hp := (pathErr_ok h0).1
  have hd := (pathErr_ok h1).1
  have Hu := Lib.hid (show under p d = (els d).isPrefixOf (els p) by rw [under, decide_eq_true h0, decide_eq_true h1]; rfl)
  have Hep := Lib.hid (fun I w hw => ref31_Elements I p (by omega) w hw)
  have Hed := Lib.hid (fun I w hw => ref31_Elements I d (by omega) w hw)
  rw [h0] at Hcp
  rw [h1] at Hcd
  generalize els p = l at Hu Hep
  generalize els d = m at Hu Hed
  clear h0 h1
  go_enter Tryz.func18, Tryz.ntmps18
  go_wp2_with fail
  refine (Hcp.out _ hw).mono ?_
  rintro e w1 ⟨rfl, hb1⟩
  have hok1 : Ok I w1 := hw.below (Nat.le_refl _) hb1
  go_wp2_with fail
  refine (Hcd.out _ hok1).mono ?_
  rintro e w2 ⟨rfl, hb2⟩
  have hok2 : Ok I w2 := hok1.below (Nat.le_refl _) hb2
  have hb2' := hb1.trans (hb2.mono hb1.size)
  clear hb1 hb2
  go_wp2_with fail
  refine (Hep.out I _ hok2).mono ?_
  rintro e w3 ⟨v3, I3, rfl, hb3, hx3, hok3, hr3⟩
  have hb3' := hb2'.trans (hb3.mono hb2'.size)
  have Hr3 := Lib.hid hr3
  clear hr3 hb3
  go_wp2_with fail
  refine (Hed.out I3 _ hok3).mono ?_
  rintro e w4 ⟨v4, I4, rfl, hb4, hx4, hok4, hr4⟩
  have hb4' := hb3'.trans (hb4.mono hb3'.size)
  have hr3 := Hr3.out.mono (hx4.keep hok3 (Nat.le_refl _))
  have hlen := hr3.len_le
  have hlen2 := hr4.len_le
  obtain ⟨ao, cap, rfl, hcap, hcm, _⟩ := id hr3
  obtain ⟨ao2, cap2, rfl, hcap2, hcm2, _⟩ := id hr4
  have Hl := Lib.hid hr3
  have Hm := Lib.hid hr4
  clear hr3 hr4 Hr3 hb4 hx4 hx3 hok3 hb2' hb3'
  by_cases hlm : m.length ≤ l.length
  case neg =>
    have hn : decide (l.length < m.length) = true := decide_eq_true (by omega)
    have Hu2 := Lib.hid (show under p d = false by rw [Hu.out]; exact prefix_short (by omega))
    go_wp2
    go_ret
    exact ⟨ret_b Hu2.out.symm, hb4'⟩
  have hn : decide (l.length < m.length) = false := decide_eq_false (by omega)
  have Hu2 := Lib.hid (show under p d = decide (l.take m.length = m) by rw [Hu.out]; exact prefix_take l m)
  have HB := Lib.hid hb4'
  clear hb4'
  go_wp2_with fail
  go_loopw [7] (fun s7 wr => ∃ k : Nat, k ≤ m.length ∧ s7 = .int .i64 k ∧ l.take k = m.take k ∧ Below w4.heap.size w4 wr) (fun i _ => m.length - (intOf i).toNat)
  case atStart => exact ⟨0, Nat.zero_le _, rfl, rfl, Below.refl _ _⟩
  case round =>
    obtain ⟨k, hk, rfl, hr, hb⟩ := hrel
    have Hr := Lib.hid hr; clear hr
    have hwr : Ok I4 wr := hok4.below (Nat.le_refl _) hb
    by_cases hlt : k < m.length
    · obtain ⟨x, b, off, cap', hlx, hvv, hx0⟩ := strAt Hl.out hwr k (by omega)
      cases hvv
      obtain ⟨y, b', off', cap'', hly, hvv, hy0⟩ := strAt Hm.out hwr k hlt
      cases hvv
      have Hlx := Lib.hid hlx
      have Hly := Lib.hid hly
      have hlt2 : k < l.length := by omega
      have g0 := cell_regrown hx0
      have g1 := cell_regrown hy0
      clear hlx hly
      by_cases hxy : x = y
      · have f1 : (x != y) = false := by simp [hxy]
        have f2 : (x == y) = true := by simp [hxy]
        have Hn := Lib.hid (show l.take (k + 1) = m.take (k + 1) by rw [List.take_succ_eq_append_getElem hlt2, List.take_succ_eq_append_getElem hlt, Hr.out, Hlx.out, Hly.out, hxy])
        clear hxy
        go_wp2_with fail
        refine wp_region_quiet_below (by kernel_rfl) (by kernel_rfl) ?_
        repeat (go_big_quiet_step ((fail)))
        refine wpQuiet_nil ?_
        intro w5 hwq
        have hb5 : Below (wr).heap.size (wr) w5 := by
          obtain ⟨pq, rfl⟩ := hwq
          exact below_regrown _ _ _
        clear hwq
        go_wp2
        go_roundw
        case rel => exact ⟨k + 1, by omega, by go_num, Hn.out, hb.trans (hb5.mono hb.size)⟩
        case measure => simp [intOf]; omega
      · have f1 : (x != y) = true := by simpa using hxy
        have f2 : (x == y) = false := by simpa using hxy
        have Hn := Lib.hid (show under p d = false by
          rw [Hu2.out, decide_eq_false]
          intro h
          apply hxy
          rw [← Hlx.out, ← Hly.out]
          have := congrArg (fun z => z[k]?) h
          simp only [List.getElem?_take_of_lt hlt] at this
          rw [List.getElem?_eq_getElem hlt2, List.getElem?_eq_getElem hlt] at this
          exact Option.some.inj this)
        clear hxy
        go_wp2_with fail
        refine wp_region_quiet_below (by kernel_rfl) (by kernel_rfl) ?_
        repeat (go_big_quiet_step ((fail)))
        refine wpQuiet_nil ?_
        intro w5 hwq
        have hb5 : Below (wr).heap.size (wr) w5 := by
          obtain ⟨pq, rfl⟩ := hwq
          exact below_regrown _ _ _
        clear hwq
        go_wp2
        go_ret
        exact ⟨ret_b Hn.out.symm, HB.out.trans ((hb.trans (hb5.mono hb.size)).mono HB.out.size)⟩
    · have Hn := Lib.hid (show under p d = true by
        have := Hr.out
        rw [show k = m.length by omega, List.take_of_length_le (l := m) (Nat.le_refl _)] at this
        rw [Hu2.out, decide_eq_true this])
      go_wp2
      go_ret
      exact ⟨ret_b Hn.out.symm, HB.out.trans (hb.mono HB.out.size)⟩

set_option maxRecDepth 100000 in
set_option maxHeartbeats 1000000 in
theorem ref31_Compare (I : IH) (p d : Bytes) (hp : p.length ≤ 4294967280) (hd : d.length ≤ 4294967280) (w : World) (hw : Ok I w) :
    Calls Tryz.prog 50 #[S p, S d] w fun e w' => e = .returned (.int .i64 (cmpP p d)) ∧ Below w.heap.size w w' := by
  have Hu := Lib.hid (cmpP_eq p d)
  have Hep := Lib.hid (fun I w hw => ref31_Elements I p hp w hw)
  have Hed := Lib.hid (fun I w hw => ref31_Elements I d hd w hw)
  generalize els p = l at Hu Hep
  generalize els d = m at Hu Hed
  go_enter Tryz.func50, Tryz.ntmps50
  go_wp2_with fail
  refine (Hep.out I _ hw).mono ?_
  rintro e w3 ⟨v3, I3, rfl, hb3, hx3, hok3, hr3⟩
  have Hr3 := Lib.hid hr3
  clear hr3
  go_wp2_with fail
  refine (Hed.out I3 _ hok3).mono ?_
  rintro e w4 ⟨v4, I4, rfl, hb4, hx4, hok4, hr4⟩
  have HB := Lib.hid (hb3.trans (hb4.mono hb3.size))
  have hr3 := Hr3.out.mono (hx4.keep hok3 (Nat.le_refl _))
  have hlen := hr3.len_le
  have hlen2 := hr4.len_le
  obtain ⟨ao, cap, rfl, hcap, hcm, _⟩ := id hr3
  obtain ⟨ao2, cap2, rfl, hcap2, hcm2, _⟩ := id hr4
  have Hl := Lib.hid hr3
  have Hm := Lib.hid hr4
  clear hr3 hr4 Hr3 hb4 hx4 hx3 hok3 hb3
  go_wp2_with fail
  go_loopw [7] (fun s7 wr => ∃ k : Nat, k ≤ l.length ∧ k ≤ m.length ∧ s7 = .int .i64 k ∧ l.take k = m.take k ∧ Below w4.heap.size w4 wr) (fun i _ => m.length - (intOf i).toNat)
  case atStart => exact ⟨0, Nat.zero_le _, Nat.zero_le _, rfl, rfl, Below.refl _ _⟩
  case round =>
    obtain ⟨k, hk, hk2, rfl, hr, hb⟩ := hrel
    have Hr := Lib.hid hr
    have Hcd := Lib.hid (cmpL_drop hr hk hk2)
    clear hr
    have hwr : Ok I4 wr := hok4.below (Nat.le_refl _) hb
    by_cases hlt : k < l.length
    case neg =>
      have Hdl := Lib.hid (show l.drop k = [] from List.drop_of_length_le (by omega))
      by_cases hlt2 : k < m.length
      · have hd1 : decide (l.length < m.length) = true := decide_eq_true (by omega)
        have Hn := Lib.hid (show cmpP p d = -1 by rw [Hu.out, Hcd.out, Hdl.out, List.drop_eq_getElem_cons hlt2]; rfl)
        go_wp2
        go_ret
        exact ⟨ret_i Hn.out.symm, HB.out.trans (hb.mono HB.out.size)⟩
      · have hd1 : decide (l.length < m.length) = false := decide_eq_false (by omega)
        have hd2 : decide (m.length < l.length) = false := decide_eq_false (by omega)
        have Hn := Lib.hid (show cmpP p d = 0 by rw [Hu.out, Hcd.out, Hdl.out, List.drop_of_length_le (by omega)]; rfl)
        go_wp2
        go_ret
        exact ⟨ret_i Hn.out.symm, HB.out.trans (hb.mono HB.out.size)⟩
    by_cases hlt2 : k < m.length
    case neg =>
      have hd1 : decide (l.length < m.length) = false := decide_eq_false (by omega)
      have hd2 : decide (m.length < l.length) = true := decide_eq_true (by omega)
      have Hn := Lib.hid (show cmpP p d = 1 by rw [Hu.out, Hcd.out, List.drop_of_length_le (l := m) (by omega), List.drop_eq_getElem_cons hlt]; rfl)
      go_wp2
      go_ret
      exact ⟨ret_i Hn.out.symm, HB.out.trans (hb.mono HB.out.size)⟩
    obtain ⟨x, b, off, cap', hlx, hvv, hx0⟩ := strAt Hl.out hwr k hlt
    cases hvv
    obtain ⟨y, b', off', cap'', hly, hvv, hy0⟩ := strAt Hm.out hwr k hlt2
    cases hvv
    have Hcd2 := Lib.hid (show cmpP p d = cmpL (x :: l.drop (k + 1)) (y :: m.drop (k + 1)) by rw [Hu.out, Hcd.out, List.drop_eq_getElem_cons hlt, List.drop_eq_getElem_cons hlt2, hlx, hly])
    have Hlx := Lib.hid hlx
    have Hly := Lib.hid hly
    have g0 := cell_regrown hx0
    have g1 := cell_regrown hy0
    clear hlx hly
    rcases bl_total x y with ht | ht | ht
    · have Hn := Lib.hid (show cmpP p d = -1 by rw [Hcd2.out]; exact cmpL_cons_lt ht _ _)
      go_wp2_with fail
      refine wp_region_quiet_below (by kernel_rfl) (by kernel_rfl) ?_
      repeat (go_big_quiet_step ((fail)))
      refine wpQuiet_nil ?_
      intro w5 hwq
      have hb5 : Below (wr).heap.size (wr) w5 := by
        obtain ⟨pq, rfl⟩ := hwq
        exact below_regrown _ _ _
      clear hwq
      go_wp2
      go_ret
      exact ⟨ret_i Hn.out.symm, HB.out.trans ((hb.trans (hb5.mono hb.size)).mono HB.out.size)⟩
    · have f1 : Op.bytesLess x y = false := by rw [ht]; exact bl_irrefl _
      have f2 : Op.bytesLess y x = false := by rw [ht]; exact bl_irrefl _
      have f3 : (x == y) = true := by simp [ht]
      have f4 : (!(x == y)) = false := by simp [ht]
      have Hn := Lib.hid (show l.take (k + 1) = m.take (k + 1) by rw [List.take_succ_eq_append_getElem hlt, List.take_succ_eq_append_getElem hlt2, Hr.out, Hlx.out, Hly.out, ht])
      clear ht
      go_wp2_with fail
      refine wp_region_quiet_below (by kernel_rfl) (by kernel_rfl) ?_
      repeat (go_big_quiet_step ((fail)))
      refine wpQuiet_nil ?_
      intro w5 hwq
      have hb5 : Below (wr).heap.size (wr) w5 := by
        obtain ⟨pq, rfl⟩ := hwq
        exact below_regrown _ _ _
      clear hwq
      have hb5' := hb.trans (hb5.mono hb.size)
      have hx1 := cell_thru hb5 hx0
      have hy1 := cell_thru hb5 hy0
      have g0 := cell_regrown hx1
      have g1 := cell_regrown hy1
      clear hb5 hx0 hy0
      go_wp2_with fail
      refine wp_region_quiet_below (by kernel_rfl) (by kernel_rfl) ?_
      repeat (go_big_quiet_step ((fail)))
      refine wpQuiet_nil ?_
      intro w6 hwq
      have hb6 : Below (w5).heap.size (w5) w6 := by
        obtain ⟨pq, rfl⟩ := hwq
        exact below_regrown _ _ _
      clear hwq
      go_wp2
      go_roundw
      case rel => exact ⟨k + 1, by omega, by omega, by go_num, Hn.out, hb5'.trans (hb6.mono hb5'.size)⟩
      case measure => simp [intOf]; omega
    · have f1 := bl_asymm ht
      have f3 : (x == y) = false := by simpa using (bl_ne ht).symm
      have f4 : (!(x == y)) = true := by rw [f3]; rfl
      have Hn := Lib.hid (show cmpP p d = 1 by rw [Hcd2.out]; exact cmpL_cons_gt ht _ _)
      go_wp2_with fail
      refine wp_region_quiet_below (by kernel_rfl) (by kernel_rfl) ?_
      repeat (go_big_quiet_step ((fail)))
      refine wpQuiet_nil ?_
      intro w5 hwq
      have hb5 : Below (wr).heap.size (wr) w5 := by
        obtain ⟨pq, rfl⟩ := hwq
        exact below_regrown _ _ _
      clear hwq
      have hb5' := hb.trans (hb5.mono hb.size)
      have hx1 := cell_thru hb5 hx0
      have hy1 := cell_thru hb5 hy0
      have g0 := cell_regrown hx1
      have g1 := cell_regrown hy1
      clear hb5 hx0 hy0
      go_wp2_with fail
      refine wp_region_quiet_below (by kernel_rfl) (by kernel_rfl) ?_
      repeat (go_big_quiet_step ((fail)))
      refine wpQuiet_nil ?_
      intro w6 hwq
      have hb6 : Below (w5).heap.size (w5) w6 := by
        obtain ⟨pq, rfl⟩ := hwq
        exact below_regrown _ _ _
      clear hwq
      go_wp2
      go_ret
      exact ⟨ret_i Hn.out.symm, HB.out.trans ((hb5'.trans (hb6.mono hb5'.size)).mono HB.out.size)⟩
end Go.Proofs.YtcbmdghnlbieeaaGreatDoor
