/-
  Walks of layer 32: Check.
-/
import Derived.Test.YtcbmdghnlbieeaaGreatDoorAtK
namespace Go.Proofs.YtcbmdghnlbieeaaGreatDoor
open Go.RowKit

set_option maxRecDepth 100000 in
set_option maxHeartbeats 1000000 in
theorem at_Check (I : IH) (v : Value) (l : List At) (hv : RdS tAt I v l) (hl : ∀ x ∈ l, x.Wf) (w : World) (hw : Ok I w) :
    Calls Tryz.prog 73 #[v] w fun e w' => e = .returned (.int .i64 (chk l)) ∧ Below w.heap.size w w' := by
  have hlen := hv.len_le
  obtain ⟨ao, cap, rfl, hcap, hcm, _⟩ := id hv
  have Hv := Lib.hid hv; clear hv
  have Hl := Lib.hid hl; clear hl
  by_cases h16 : l.length ≤ 16
  · have hd : decide (16 < l.length) = false := decide_eq_false (by omega)
    have Hchk := Lib.hid (show chk l = chkFrom none l by rw [chk, if_neg (by omega)])
    go_enter Tryz.func73, Tryz.ntmps73
    go_wp2_with fail
    go_loopw [11] (fun s11 wr => ∃ k : Nat, k ≤ l.length ∧ s11 = .int .i64 k ∧ chkFrom (if k = 0 then none else l[k-1]?) (l.drop k) = chkFrom none l ∧ Below w.heap.size w wr) (fun i _ => l.length - (intOf i).toNat)
    case atStart => exact ⟨0, Nat.zero_le _, rfl, rfl, Below.refl _ _⟩
    case round =>
      obtain ⟨k, hk, rfl, hr, hb⟩ := hrel
      have Hr := Lib.hid hr; clear hr
      by_cases hlt : k < l.length
      · have hwr : Ok I wr := hw.below (Nat.le_refl _) hb
        obtain ⟨x, b, off, cap', hlx, hvv, hc0, hc1⟩ := atAt Hv.out hwr k hlt
        cases hvv
        have hxm : x ∈ l := by rw [← hlx]; exact List.getElem_mem hlt
        have Hxw := Lib.hid (Hl.out x hxm)
        have Hst := Lib.hid (show chk l = if atErr x ≠ 0 then atErr x else if ((if k = 0 then none else l[k-1]?).any fun q => q.k == x.k) then 8 else if ((if k = 0 then none else l[k-1]?).any fun q => Op.bytesLess x.k q.k) then 14 else chkFrom (some x) (l.drop (k+1)) by
          rw [Hchk.out, ← Hr.out, List.drop_eq_getElem_cons hlt, hlx, chkFrom_step])
        have Hkx := Lib.hid (show l[k]? = some x by rw [List.getElem?_eq_getElem hlt, hlx])
        clear hlx hxm
        go_wp2_with fail
        refine (at_attr x Hxw.out _).mono ?_
        rintro e w1 ⟨rfl, hb1⟩
        obtain ⟨hx0, hx1⟩ := atBox rfl hb1
        have hb1' := (hb.alloc hb.size _).trans (hb1.mono (by have := hb.size; simp; omega))
        have hw1 : Ok I w1 := hw.below (Nat.le_refl _) hb1'
        clear hb1 hc0 hc1
        by_cases h0 : atErr x = 0
        · have H0 := Lib.hid h0
          rw [h0]
          clear h0
          by_cases hk0 : k = 0
          · have hd3 : ((k : Int) == 0) = true := by rw [hk0]; rfl
            have Hnx := Lib.hid (show chkFrom (if k + 1 = 0 then none else l[k+1-1]?) (l.drop (k+1)) = chkFrom none l by
              rw [← Hchk.out, Hst.out, H0.out, if_neg (by omega), Nat.add_sub_cancel, Hkx.out]; simp [hk0])
            clear hk0
            go_wp2
            go_roundw
            case rel => exact ⟨k + 1, by omega, by go_num, Hnx.out, hb1'⟩
            case measure => simp [intOf]; omega
          · obtain ⟨q, b', off', cap'', hlq, hvv, hp0, hp1⟩ := atAt Hv.out hw1 (k-1) (by omega)
            cases hvv
            have Hst2 := Lib.hid (show chk l = if (q.k == x.k) then 8 else if Op.bytesLess x.k q.k then 14 else chkFrom (some x) (l.drop (k+1)) by
              rw [Hst.out, H0.out, if_neg (by omega), if_neg hk0, List.getElem?_eq_getElem (by omega), hlq]; rfl)
            have hd3 : ((k : Int) == 0) = false := by rw [beq_eq_false_iff_ne]; omega
            have hi : IntKind.i64.wrap ((k : Int) - 1) = (k : Int) - 1 := IntWalk.i64_in _ (by omega)
            have hj : 0 ≤ (k : Int) - 1 := by omega
            have hm : ((k : Int) - 1).toNat = k - 1 := by omega
            have hg0 := cell_regrown hx0
            have hq0 := cell_regrown hp0
            have hcmp := cmp_bytes q.k x.k
            have Hcmp := Lib.hid (fun W => lib_Compare q.k x.k W)
            generalize Lib.compareBytes q.k x.k = r at hcmp Hcmp
            clear hlq
            rcases bl_total q.k x.k with ht | ht | ht
            · have hr1 : r = -1 := by rw [hcmp, ht]; rfl
              have Hnx := Lib.hid (show chkFrom (if k + 1 = 0 then none else l[k+1-1]?) (l.drop (k+1)) = chkFrom none l by
                have hbe : (q.k == x.k) = false := by simpa using bl_ne ht
                rw [← Hchk.out, Hst2.out, bl_asymm ht, hbe, Nat.add_sub_cancel, Hkx.out]; simp)
              subst hr1
              clear ht hcmp
              go_wp2_with fail
              refine wp_region_quiet_below (by kernel_rfl) (by kernel_rfl) ?_
              repeat (go_big_quiet_step ((with_reducible exact Calls.regrown_of (Hcmp.out _))))
              refine wpQuiet_nil ?_
              intro w2 hwq
              have hb2 : Below (w1).heap.size (w1) w2 := by
                obtain ⟨pq, rfl⟩ := hwq
                exact below_regrown _ _ _
              clear hwq
              go_wp2
              go_roundw
              case rel => exact ⟨k + 1, by omega, by go_num, Hnx.out, hb1'.trans (hb2.mono hb1'.size)⟩
              case measure => simp [intOf]; omega
            · have hbe : (q.k == x.k) = true := by rw [ht]; exact beq_self_eq_true _
              have hbl : Op.bytesLess q.k x.k = false := by rw [ht]; exact bl_irrefl _
              have hr1 : r = 0 := by rw [hcmp, hbl, hbe]; rfl
              have Hnx := Lib.hid (show chk l = 8 by rw [Hst2.out, if_pos hbe])
              subst hr1
              clear ht hcmp hbe hbl
              go_wp2_with fail
              refine wp_region_quiet_below (by kernel_rfl) (by kernel_rfl) ?_
              repeat (go_big_quiet_step ((with_reducible exact Calls.regrown_of (Hcmp.out _))))
              refine wpQuiet_nil ?_
              intro w2 hwq
              have hb2 : Below (w1).heap.size (w1) w2 := by
                obtain ⟨pq, rfl⟩ := hwq
                exact below_regrown _ _ _
              clear hwq
              go_wp2
              go_ret
              exact ⟨ret_i Hnx.out.symm, hb1'.trans (hb2.mono hb1'.size)⟩
            · have hne : (q.k == x.k) = false := by simpa using (bl_ne ht).symm
              have hr1 : r = 1 := by rw [hcmp, bl_asymm ht, hne]; rfl
              have Hnx := Lib.hid (show chk l = 14 by rw [Hst2.out, if_neg (by rw [hne]; simp), if_pos ht])
              subst hr1
              clear ht hcmp hne
              go_wp2_with fail
              refine wp_region_quiet_below (by kernel_rfl) (by kernel_rfl) ?_
              repeat (go_big_quiet_step ((with_reducible exact Calls.regrown_of (Hcmp.out _))))
              refine wpQuiet_nil ?_
              intro w2 hwq
              have hb2 : Below (w1).heap.size (w1) w2 := by
                obtain ⟨pq, rfl⟩ := hwq
                exact below_regrown _ _ _
              clear hwq
              go_wp2
              go_ret
              exact ⟨ret_i Hnx.out.symm, hb1'.trans (hb2.mono hb1'.size)⟩
        · obtain ⟨q, hq⟩ : ∃ q, atErr x = q := ⟨_, rfl⟩
          have hn0 : (q != 0) = true := by rw [← hq]; simpa using h0
          have Hs := Lib.hid (show chk l = q by rw [Hst.out, if_pos h0, hq])
          rw [hq]
          clear hq h0
          go_wp2
          go_ret
          exact ⟨ret_i Hs.out.symm, hb1'⟩
      · go_wp2
        go_ret
        refine ⟨ret_i ?_, hb⟩
        rw [Hchk.out, ← Hr.out, List.drop_of_length_le (by omega)]; rfl
  · have hd : decide (16 < l.length) = true := decide_eq_true (by omega)
    go_enter Tryz.func73, Tryz.ntmps73
    go_wp2
    go_ret
    exact ⟨ret_i (by rw [chk, if_pos (by omega)]), Below.refl _ _⟩
end Go.Proofs.YtcbmdghnlbieeaaGreatDoor
