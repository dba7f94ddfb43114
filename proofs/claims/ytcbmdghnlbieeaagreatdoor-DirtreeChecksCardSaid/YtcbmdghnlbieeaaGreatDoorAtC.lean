/-
  Walks of the reference's layer 32: Check, Get, Remove.
-/
import Derived.Test.YtcbmdghnlbieeaaGreatDoorAtB
import Derived.Test.YtcbmdghnlbieeaaGreatDoorRet
namespace Go.Proofs.YtcbmdghnlbieeaaGreatDoor
open Go.RowKit

theorem chkFrom_step (p : Option At) (x : At) (l : List At) : chkFrom p (x :: l) = if atErr x ≠ 0 then atErr x else if (p.any fun q => q.k == x.k) then 8 else if (p.any fun q => Op.bytesLess x.k q.k) then 14 else chkFrom (some x) l := rfl

set_option maxRecDepth 100000 in
set_option maxHeartbeats 1000000 in
theorem ref32_Check (I : IH) (v : Value) (l : List At) (hv : RdS tAt I v l) (hl : ∀ x ∈ l, x.Wf) (w : World) (hw : Ok I w) :
    Calls Tryz.prog 84 #[v] w fun e w' => e = .returned (.int .i64 (chk l)) ∧ Below w.heap.size w w' := by
  have hlen := hv.len_le
  obtain ⟨ao, cap, rfl, hcap, hcm, _⟩ := id hv
  have Hv := Lib.hid hv; clear hv
  have Hl := Lib.hid hl; clear hl
  by_cases h16 : l.length ≤ 16
  · have hd : decide (16 < l.length) = false := decide_eq_false (by omega)
    have Hchk := Lib.hid (show chk l = chkFrom none l by rw [chk, if_neg (by omega)])
    go_enter Tryz.func84, Tryz.ntmps84
    go_wp2_with fail
    go_loopw [3] (fun s3 wr => ∃ k : Nat, k ≤ l.length ∧ s3 = .int .i64 k ∧ chkFrom (if k = 0 then none else l[k-1]?) (l.drop k) = chkFrom none l ∧ Below w.heap.size w wr) (fun i _ => l.length - (intOf i).toNat)
    case atStart => exact ⟨0, Nat.zero_le _, rfl, rfl, Below.refl _ _⟩
    case round =>
      obtain ⟨k, hk, rfl, hr, hb⟩ := hrel
      have Hr := Lib.hid hr; clear hr
      by_cases hlt : k < l.length
      · have hwr : Ok I wr := hw.below (Nat.le_refl _) hb
        obtain ⟨x, b, off, cap', hlx, hvv, hc0, hc1⟩ := atAt Hv.out hwr k hlt
        cases hvv
        have hxm : x ∈ l := by rw [← hlx]; exact List.getElem_mem hlt
        obtain ⟨hx1, hx2⟩ := Hl.out x hxm
        have Hst := Lib.hid (show chk l = if atErr x ≠ 0 then atErr x else if ((if k = 0 then none else l[k-1]?).any fun q => q.k == x.k) then 8 else if ((if k = 0 then none else l[k-1]?).any fun q => Op.bytesLess x.k q.k) then 14 else chkFrom (some x) (l.drop (k+1)) by
          rw [Hchk.out, ← Hr.out, List.drop_eq_getElem_cons hlt, hlx, chkFrom_step])
        have Hkx := Lib.hid (show l[k]? = some x by rw [List.getElem?_eq_getElem hlt, hlx])
        clear hlx hxm
        go_wp2_with fail
        refine (ref32_Key x.k hx1 _).mono ?_
        rintro e w1 ⟨rfl, hb1⟩
        have hb1' := hb.trans (hb1.mono hb.size)
        have hc0 := cell_thru hb1 hc0
        have hc1 := cell_thru hb1 hc1
        have hw1 : Ok I w1 := hwr.below (Nat.le_refl _) hb1
        clear hb1
        cases hko : keyOk x.k
        · have Hko := Lib.hid (show chk l = 7 by rw [Hst.out, if_pos (by rw [atErr, if_pos hko]; omega), atErr, if_pos hko])
          clear hko
          go_wp2
          go_ret
          exact ⟨ret_i Hko.out.symm, hb1'⟩
        · have Hko := Lib.hid hko
          clear hko
          by_cases h64 : x.v.length ≤ 64
          · have hd2 : decide (64 < x.v.length) = false := decide_eq_false (by omega)
            have He := Lib.hid (show atErr x = 0 by rw [atErr, if_neg (by rw [Hko.out]; simp), if_neg (by omega)])
            by_cases hk0 : k = 0
            · have hd3 : decide (0 < k) = false := decide_eq_false (by omega)
              have Hnx := Lib.hid (show chkFrom (if k + 1 = 0 then none else l[k+1-1]?) (l.drop (k+1)) = chkFrom none l by
                rw [← Hchk.out, Hst.out, He.out, if_neg (by omega), Nat.add_sub_cancel, Hkx.out]; simp [hk0])
              clear hk0
              go_wp2_with fail
              refine wp_region_quiet_below (by kernel_rfl) (by kernel_rfl) ?_
              repeat (go_big_quiet_step ((fail)))
              refine wpQuiet_nil ?_
              intro w2 hwq
              have hb2 : Below (w1).heap.size (w1) w2 := by
                obtain ⟨pq, rfl⟩ := hwq
                exact below_regrown _ _ _
              clear hwq
              go_wp2_with fail
              refine wp_region_quiet_below (by kernel_rfl) (by kernel_rfl) ?_
              repeat (go_big_quiet_step ((fail)))
              refine wpQuiet_nil ?_
              intro w3 hwq
              have hb3 : Below (w2).heap.size (w2) w3 := by
                obtain ⟨pq, rfl⟩ := hwq
                exact below_regrown _ _ _
              clear hwq
              go_wp2
              go_roundw
              case rel => exact ⟨k + 1, by omega, by go_num, Hnx.out, hb1'.trans ((hb2.trans (hb3.mono hb2.size)).mono hb1'.size)⟩
              case measure => simp [intOf]; omega
            · obtain ⟨q, b', off', cap'', hlq, hvv, hp0, hp1⟩ := atAt Hv.out hw1 (k-1) (by omega)
              cases hvv
              have Hst2 := Lib.hid (show chk l = if (q.k == x.k) then 8 else if Op.bytesLess x.k q.k then 14 else chkFrom (some x) (l.drop (k+1)) by
                rw [Hst.out, He.out, if_neg (by omega), if_neg hk0, List.getElem?_eq_getElem (by omega), hlq]; rfl)
              have hd3 : decide (0 < k) = true := decide_eq_true (by omega)
              have hi : IntKind.i64.wrap ((k : Int) - 1) = (k : Int) - 1 := IntWalk.i64_in _ (by omega)
              have hj : 0 ≤ (k : Int) - 1 := by omega
              have hm : ((k : Int) - 1).toNat = k - 1 := by omega
              have hg0 := cell_regrown hc0
              have hq0 := cell_regrown hp0
              clear hlq
              cases he1 : (x.k == q.k)
              · have He1 := Lib.hid (show (q.k == x.k) = false by rw [beq_eq_false_iff_ne] at he1 ⊢; exact fun h => he1 h.symm)
                cases he2 : Op.bytesLess x.k q.k
                · have Hnx := Lib.hid (show chkFrom (if k + 1 = 0 then none else l[k+1-1]?) (l.drop (k+1)) = chkFrom none l by
                    rw [← Hchk.out, Hst2.out, He1.out, he2, Nat.add_sub_cancel, Hkx.out]; simp)
                  go_wp2_with fail
                  refine wp_region_quiet_below (by kernel_rfl) (by kernel_rfl) ?_
                  repeat (go_big_quiet_step ((fail)))
                  refine wpQuiet_nil ?_
                  intro w2 hwq
                  have hb2 : Below (w1).heap.size (w1) w2 := by
                    obtain ⟨pq, rfl⟩ := hwq
                    exact below_regrown _ _ _
                  clear hwq
                  go_wp2_with fail
                  have hg0 := cell_regrown (cell_thru hb2 hc0)
                  have hq0 := cell_regrown (cell_thru hb2 hp0)
                  refine wp_region_quiet_below (by kernel_rfl) (by kernel_rfl) ?_
                  repeat (go_big_quiet_step ((fail)))
                  refine wpQuiet_nil ?_
                  intro w3 hwq
                  have hb3 : Below (w2).heap.size (w2) w3 := by
                    obtain ⟨pq, rfl⟩ := hwq
                    exact below_regrown _ _ _
                  clear hwq
                  go_wp2
                  go_roundw
                  case rel => exact ⟨k + 1, by omega, by go_num, Hnx.out, hb1'.trans ((hb2.trans (hb3.mono hb2.size)).mono hb1'.size)⟩
                  case measure => simp [intOf]; omega
                · have Hnx := Lib.hid (show chk l = 14 by rw [Hst2.out, He1.out, he2]; simp)
                  go_wp2_with fail
                  refine wp_region_quiet_below (by kernel_rfl) (by kernel_rfl) ?_
                  repeat (go_big_quiet_step ((fail)))
                  refine wpQuiet_nil ?_
                  intro w2 hwq
                  have hb2 : Below (w1).heap.size (w1) w2 := by
                    obtain ⟨pq, rfl⟩ := hwq
                    exact below_regrown _ _ _
                  clear hwq
                  go_wp2_with fail
                  have hg0 := cell_regrown (cell_thru hb2 hc0)
                  have hq0 := cell_regrown (cell_thru hb2 hp0)
                  refine wp_region_quiet_below (by kernel_rfl) (by kernel_rfl) ?_
                  repeat (go_big_quiet_step ((fail)))
                  refine wpQuiet_nil ?_
                  intro w3 hwq
                  have hb3 : Below (w2).heap.size (w2) w3 := by
                    obtain ⟨pq, rfl⟩ := hwq
                    exact below_regrown _ _ _
                  clear hwq
                  go_wp2
                  go_ret
                  exact ⟨ret_i Hnx.out.symm, hb1'.trans ((hb2.trans (hb3.mono hb2.size)).mono hb1'.size)⟩
              · have Hnx := Lib.hid (show chk l = 8 by rw [Hst2.out, if_pos (by rw [beq_iff_eq] at he1 ⊢; exact he1.symm)])
                go_wp2_with fail
                refine wp_region_quiet_below (by kernel_rfl) (by kernel_rfl) ?_
                repeat (go_big_quiet_step ((fail)))
                refine wpQuiet_nil ?_
                intro w2 hwq
                have hb2 : Below (w1).heap.size (w1) w2 := by
                  obtain ⟨pq, rfl⟩ := hwq
                  exact below_regrown _ _ _
                clear hwq
                go_wp2
                go_ret
                exact ⟨ret_i Hnx.out.symm, hb1'.trans (hb2.mono hb1'.size)⟩
          · have hd2 : decide (64 < x.v.length) = true := decide_eq_true (by omega)
            have He := Lib.hid (show chk l = 6 by
              have : atErr x = 6 := by rw [atErr, if_neg (by rw [Hko.out]; simp), if_pos (by omega)]
              rw [Hst.out, this]; simp)
            go_wp2
            go_ret
            exact ⟨ret_i He.out.symm, hb1'⟩
      · go_wp2
        go_ret
        refine ⟨ret_i ?_, hb⟩
        rw [Hchk.out, ← Hr.out, List.drop_of_length_le (by omega)]; rfl
  · have hd : decide (16 < l.length) = true := decide_eq_true (by omega)
    go_enter Tryz.func84, Tryz.ntmps84
    go_wp2
    go_ret
    exact ⟨ret_i (by rw [chk, if_pos (by omega)]), Below.refl _ _⟩
end Go.Proofs.YtcbmdghnlbieeaaGreatDoor
