/-
  Walks of the reference's layer 32: Great, Same, Key, Check, Get.
-/
import Derived.Test.YtcbmdghnlbieeaaGreatDoorPaA
namespace Go.Proofs.YtcbmdghnlbieeaaGreatDoor
open Go.RowKit

def bigA (x : At) : Bool := decide (100 < x.k.length) || decide (100 < x.v.length)
def greatA (l : List At) : Int := if 30 < l.length then 1 else if l.any bigA then 1 else 0

set_option maxRecDepth 100000 in
set_option maxHeartbeats 400000 in
theorem ref32_Great (I : IH) (v : Value) (l : List At) (hv : RdS tAt I v l) (hl : ∀ x ∈ l, x.Wf) (w : World) (hw : Ok I w) :
    Calls Tryz.prog 72 #[v] w fun e w' => e = .returned (.int .i64 (greatA l)) ∧ Below w.heap.size w w' := by
  have hlen := hv.len_le
  obtain ⟨ao, cap, rfl, hcap, hcm, _⟩ := id hv
  have Hv := Lib.hid hv; clear hv
  have Hl := Lib.hid hl; clear hl
  by_cases h30 : l.length ≤ 30
  · have hd : decide (30 < l.length) = false := by simp; omega
    go_enter Tryz.func72, Tryz.ntmps72
    go_wp2_with fail
    go_loopw [3] (fun s3 wr => ∃ k : Nat, k ≤ l.length ∧ s3 = .int .i64 k ∧ (l.take k).any bigA = false ∧ Below w.heap.size w wr) (fun i _ => l.length - (intOf i).toNat)
    case atStart => exact ⟨0, Nat.zero_le _, rfl, rfl, Below.refl _ _⟩
    case round =>
      obtain ⟨k, hk, rfl, hr, hb⟩ := hrel
      have Hr := Lib.hid hr; clear hr
      by_cases hlt : k < l.length
      · have hwr : Ok I wr := hw.below (Nat.le_refl _) hb
        obtain ⟨x, b, off, cap', hlx, hvv, hc0, hc1⟩ := atAt Hv.out hwr k hlt
        cases hvv
        have hxm : x ∈ l := by rw [← hlx]; exact List.getElem_mem hlt
        obtain ⟨hx1, hx2⟩ := Hl.out x hxm
        have Hxm := Lib.hid hxm
        have Htk := Lib.hid (show l.take (k + 1) = l.take k ++ [x] by rw [List.take_succ_eq_append_getElem hlt, hlx])
        clear hlx hxm
        by_cases h1 : x.k.length ≤ 100
        · have hd1 : decide (100 < x.k.length) = false := by simp; omega
          by_cases h2 : x.v.length ≤ 100
          · have hd2 : decide (100 < x.v.length) = false := by simp; omega
            go_wp2
            go_roundw
            case rel => exact ⟨k + 1, by omega, by go_num, (by rw [Htk.out, List.any_append, Hr.out]; simp [bigA]; omega), hb⟩
            case measure => simp [intOf]; omega
          · have hd2 : decide (100 < x.v.length) = true := by simp; omega
            go_wp2
            go_ret
            exact ⟨ret_i (by rw [greatA, if_neg (by omega), if_pos (List.any_eq_true.2 ⟨x, Hxm.out, by simp [bigA]; omega⟩)]), hb⟩
        · have hd1 : decide (100 < x.k.length) = true := by simp; omega
          go_wp2
          go_ret
          exact ⟨ret_i (by rw [greatA, if_neg (by omega), if_pos (List.any_eq_true.2 ⟨x, Hxm.out, by simp [bigA]; omega⟩)]), hb⟩
      · go_wp2
        go_ret
        refine ⟨ret_i ?_, hb⟩
        have := Hr.out
        rw [List.take_of_length_le (by omega)] at this
        rw [greatA, if_neg (by omega), if_neg (by rw [this]; simp)]
  · have hd : decide (30 < l.length) = true := by simp; omega
    go_enter Tryz.func72, Tryz.ntmps72
    go_wp2
    go_ret
    exact ⟨ret_i (by rw [greatA, if_pos (by omega)]), Below.refl _ _⟩

theorem run_neq_at (a b : At) (W : World) : (binOp .neq 90 (.agg #[S a.k, S a.v]) (.agg #[S b.k, S b.v])).run Tryz.prog W = .ok (.bool (!decide (a = b))) W := by
  rw [run_neq_of _ _ [(9, 0, false), (9, 1, false)] W (by kernel_rfl) (by kernel_rfl) (by kernel_rfl)]
  obtain ⟨a1, a2⟩ := a
  obtain ⟨b1, b2⟩ := b
  simp [go_sem]
  by_cases h1 : a1 = b1 <;> by_cases h2 : a2 = b2 <;> simp [h1, h2]

set_option maxRecDepth 100000 in
set_option maxHeartbeats 400000 in
theorem ref32_Same (I : IH) (v1 v2 : Value) (l1 l2 : List At) (hv1 : RdS tAt I v1 l1) (hv2 : RdS tAt I v2 l2) (w : World) (hw : Ok I w) :
    Calls Tryz.prog 55 #[v1, v2] w fun e w' => e = .returned (.bool (decide (l1 = l2))) ∧ Below w.heap.size w w' := by
  have hlen := hv1.len_le
  have hlen2 := hv2.len_le
  obtain ⟨ao, cap, rfl, hcap, hcm, _⟩ := id hv1
  obtain ⟨ao2, cap2, rfl, hcap2, hcm2, _⟩ := id hv2
  have Hv1 := Lib.hid hv1; clear hv1
  have Hv2 := Lib.hid hv2; clear hv2
  by_cases hll : l1.length = l2.length
  · have hn : ((l1.length : Int) != (l2.length : Int)) = false := by rw [hll]; simp
    have Hll := Lib.hid hll; clear hll
    go_enter Tryz.func55, Tryz.ntmps55
    go_wp2
    go_loopw [5] (fun s5 wr => ∃ k : Nat, k ≤ l1.length ∧ s5 = .int .i64 k ∧ l1.take k = l2.take k ∧ Below w.heap.size w wr) (fun i _ => l1.length - (intOf i).toNat)
    case atStart => exact ⟨0, Nat.zero_le _, rfl, rfl, Below.refl _ _⟩
    case round =>
      obtain ⟨k, hk, rfl, hr, hb⟩ := hrel
      have Hr := Lib.hid hr; clear hr
      by_cases hlt : k < l1.length
      · have hlt2 : k < l2.length := by rw [← Hll.out]; exact hlt
        have hwr : Ok I wr := hw.below (Nat.le_refl _) hb
        obtain ⟨p, b, off, cap', hp, hvv, hp0, hp1⟩ := atAt Hv1.out hwr k hlt
        cases hvv
        obtain ⟨q, b', off', cap'', hq, hvv, hq0, hq1⟩ := atAt Hv2.out hwr k hlt2
        cases hvv
        have Hp := Lib.hid hp; clear hp
        have Hq := Lib.hid hq; clear hq
        have hg0 := cell_regrown hp0
        have hg1 := cell_regrown hp1
        have hy0 := cell_regrown hq0
        have hy1 := cell_regrown hq1
        have hneq := run_neq_at p q
        by_cases hpq : p = q
        · rw [decide_eq_true hpq] at hneq
          go_wp2_with fail
          refine wp_region_quiet_below (by kernel_rfl) (by kernel_rfl) ?_
          repeat (go_big_quiet_step ((fail)))
          refine wpQuiet_nil ?_
          intro w2 hwq
          have hb2 : Below (wr).heap.size (wr) w2 := by
            obtain ⟨pq, rfl⟩ := hwq
            exact below_regrown _ _ _
          clear hwq
          go_wp2
          go_roundw
          case rel => exact ⟨k + 1, by omega, by go_num, by rw [List.take_succ_eq_append_getElem hlt, List.take_succ_eq_append_getElem hlt2, Hr.out, Hp.out, Hq.out, hpq], hb.trans (hb2.mono hb.size)⟩
          case measure => simp [intOf]; omega
        · rw [decide_eq_false hpq] at hneq
          go_wp2_with fail
          refine wp_region_quiet_below (by kernel_rfl) (by kernel_rfl) ?_
          repeat (go_big_quiet_step ((fail)))
          refine wpQuiet_nil ?_
          intro w2 hwq
          have hb2 : Below (wr).heap.size (wr) w2 := by
            obtain ⟨pq, rfl⟩ := hwq
            exact below_regrown _ _ _
          clear hwq
          go_wp2
          go_ret
          refine ⟨ret_b ?_, hb.trans (hb2.mono hb.size)⟩
          symm
          rw [decide_eq_false_iff_not]
          intro h
          apply hpq
          rw [← Hp.out, ← Hq.out]
          simp [h]
      · go_wp2
        go_ret
        refine ⟨ret_b ?_, hb⟩
        symm
        rw [decide_eq_true_iff]
        have := Hr.out
        rwa [List.take_of_length_le (by omega), List.take_of_length_le (by rw [← Hll.out]; omega)] at this
  · have hn : ((l1.length : Int) != (l2.length : Int)) = true := by rw [bne_iff_ne]; omega
    go_enter Tryz.func55, Tryz.ntmps55
    go_wp2
    go_ret
    exact ⟨ret_b (by simp; intro h; exact hll (by rw [h])), Below.refl _ _⟩
end Go.Proofs.YtcbmdghnlbieeaaGreatDoor
