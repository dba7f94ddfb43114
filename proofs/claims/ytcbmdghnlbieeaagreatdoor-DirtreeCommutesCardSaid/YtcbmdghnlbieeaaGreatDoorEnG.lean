/-
  Walks of the reference's layer 37: Same, Check, Right.
-/
import Derived.Test.YtcbmdghnlbieeaaGreatDoorEnF
namespace Go.Proofs.YtcbmdghnlbieeaaGreatDoor
open Go.RowKit

abbrev AllE (t : List Ent) : Prop := ∀ x ∈ t, x.Wf

set_option maxRecDepth 100000 in
set_option maxHeartbeats 1000000 in
theorem ref37_Same (I : IH) (v1 v2 : Value) (l1 l2 : List Ent) (hv1 : RdS tEnt I v1 l1) (hv2 : RdS tEnt I v2 l2) (w : World) (hw : Ok I w) :
    Calls Tryz.prog 17 #[v1, v2] w fun e w' => e = .returned (.bool (decide (l1 = l2))) ∧ Below w.heap.size w w' := by
  have hlen := hv1.len_le
  have hlen2 := hv2.len_le
  obtain ⟨ao, cap, rfl, hcap, hcm, _⟩ := id hv1
  obtain ⟨ao2, cap2, rfl, hcap2, hcm2, _⟩ := id hv2
  have Hv1 := Lib.hid hv1; clear hv1
  have Hv2 := Lib.hid hv2; clear hv2
  by_cases hll : l1.length = l2.length
  · have hn : ((l1.length : Int) != (l2.length : Int)) = false := by rw [hll]; simp
    have Hll := Lib.hid hll; clear hll
    go_enter Tryz.func17, Tryz.ntmps17
    go_wp2_with fail
    go_loopw [13] (fun s13 wr => ∃ k : Nat, k ≤ l1.length ∧ s13 = .int .i64 k ∧ l1.take k = l2.take k ∧ Below w.heap.size w wr) (fun i _ => l1.length - (intOf i).toNat)
    case atStart => exact ⟨0, Nat.zero_le _, rfl, rfl, Below.refl _ _⟩
    case round =>
      obtain ⟨k, hk, rfl, hr, hb⟩ := hrel
      have Hr := Lib.hid hr; clear hr
      by_cases hlt : k < l1.length
      · have hlt2 : k < l2.length := by rw [← Hll.out]; exact hlt
        have hwr : Ok I wr := hw.below (Nat.le_refl _) hb
        obtain ⟨x, va, vx, b, off, cap', hlx, hvv, ⟨c0, c1, c2, c3, c4, c5, c6⟩, h1, h2⟩ := entAt Hv1.out hwr k hlt
        cases hvv
        obtain ⟨y, vb, vy, b', off', cap'', hly, hvv, ⟨d0, d1, d2, d3, d4, d5, d6⟩, h3, h4⟩ := entAt Hv2.out hwr k hlt2
        cases hvv
        have Hx := Lib.hid hlx
        have Hy := Lib.hid hly
        have Heq := Lib.hid (fun W hW => ref36_Equal I x y va vx vb vy h1 h2 h3 h4 W hW)
        obtain ⟨aa, ca, rfl, _, _, _⟩ := id h1
        obtain ⟨ax, cx, rfl, _, _, _⟩ := id h2
        obtain ⟨aa2, ca2, rfl, _, _, _⟩ := id h3
        obtain ⟨ax2, cx2, rfl, _, _, _⟩ := id h4
        have c0 := cell_regrown c0
        have c1 := cell_regrown c1
        have c2 := cell_regrown c2
        have c3 := cell_regrown c3
        have c4 := cell_regrown c4
        have c5 := cell_regrown c5
        have c6 := cell_regrown c6
        have d0 := cell_regrown d0
        have d1 := cell_regrown d1
        have d2 := cell_regrown d2
        have d3 := cell_regrown d3
        have d4 := cell_regrown d4
        have d5 := cell_regrown d5
        have d6 := cell_regrown d6
        clear hlx hly h1 h2 h3 h4
        by_cases hxy : x = y
        · rw [decide_eq_true hxy] at Heq
          have Hn := Lib.hid (show l1.take (k + 1) = l2.take (k + 1) by rw [List.take_succ_eq_append_getElem hlt, List.take_succ_eq_append_getElem hlt2, Hr.out, Hx.out, Hy.out, hxy])
          clear hxy
          go_wp2_with fail
          refine wp_region_quiet_below (by kernel_rfl) (by kernel_rfl) ?_
          repeat (go_big_quiet_step ((with_reducible exact Calls.regrown_of (Heq.out _ (hwr.below (Nat.le_refl _) (below_regrown _ _ _))))))
          refine wpQuiet_nil ?_
          intro w2 hwq
          have hb2 : Below (wr).heap.size (wr) w2 := by
            obtain ⟨pq, rfl⟩ := hwq
            exact below_regrown _ _ _
          clear hwq
          go_wp2
          go_roundw
          case rel => exact ⟨k + 1, by omega, by go_num, Hn.out, hb.trans (hb2.mono hb.size)⟩
          case measure => simp [intOf]; omega
        · rw [decide_eq_false hxy] at Heq
          have Hn := Lib.hid (show decide (l1 = l2) = false by
            rw [decide_eq_false]
            intro h
            apply hxy
            rw [← Hx.out, ← Hy.out]
            simp [h])
          clear hxy
          go_wp2_with fail
          refine wp_region_quiet_below (by kernel_rfl) (by kernel_rfl) ?_
          repeat (go_big_quiet_step ((with_reducible exact Calls.regrown_of (Heq.out _ (hwr.below (Nat.le_refl _) (below_regrown _ _ _))))))
          refine wpQuiet_nil ?_
          intro w2 hwq
          have hb2 : Below (wr).heap.size (wr) w2 := by
            obtain ⟨pq, rfl⟩ := hwq
            exact below_regrown _ _ _
          clear hwq
          go_wp2
          go_ret
          exact ⟨ret_b Hn.out.symm, hb.trans (hb2.mono hb.size)⟩
      · have Hn := Lib.hid (show decide (l1 = l2) = true by
          have := Hr.out
          rw [List.take_of_length_le (by omega), List.take_of_length_le (by rw [← Hll.out]; omega)] at this
          rw [decide_eq_true this])
        go_wp2
        go_ret
        exact ⟨ret_b Hn.out.symm, hb⟩
  · have hn : ((l1.length : Int) != (l2.length : Int)) = true := by rw [bne_iff_ne]; omega
    have Hn := Lib.hid (show decide (l1 = l2) = false from decide_eq_false fun e => hll (by rw [e]))
    clear hll
    go_enter Tryz.func17, Tryz.ntmps17
    go_wp2
    go_ret
    exact ⟨ret_b Hn.out.symm, Below.refl _ _⟩

/-- What the reference's Check of trees returns. -/
def chkTRFrom (t : List Ent) : Option Ent → List Ent → Int
  | _, [] => 0
  | q, x :: l => if entErrR x ≠ 0 then entErrR x else if x.kind ≠ 1 ∧ x.kind ≠ 2 ∧ x.kind ≠ 3 then 10 else if (q.any fun y => !(ltP (els y.path) (els x.path))) then 14 else if dirErr t (upP x.path) ≠ 0 then dirErr t (upP x.path) else chkTRFrom t (some x) l
def chkTR (t : List Ent) : Int := chkTRFrom t none t
theorem chkTRFrom_eq (t : List Ent) : ∀ (l : List Ent) (q : Option Ent), (∀ x ∈ l, x.exts.length ≤ 1000000) → chkTRFrom t q l = chkTFrom t q l
  | [], _, _ => rfl
  | x :: l, q, h => by
    rw [chkTRFrom, chkTFrom, entErrR_eq (h x (List.mem_cons_self ..)), chkTRFrom_eq t l _ fun y hy => h y (List.mem_cons_of_mem _ hy)]
theorem chkTR_eq {t : List Ent} (h : ∀ x ∈ t, x.exts.length ≤ 1000000) : chkTR t = chkT t := chkTRFrom_eq t t none h
theorem chkTRFrom_step (t : List Ent) (q : Option Ent) (x : Ent) (l : List Ent) : chkTRFrom t q (x :: l) = if entErrR x ≠ 0 then entErrR x else if x.kind ≠ 1 ∧ x.kind ≠ 2 ∧ x.kind ≠ 3 then 10 else if (q.any fun y => !(ltP (els y.path) (els x.path))) then 14 else if dirErr t (upP x.path) ≠ 0 then dirErr t (upP x.path) else chkTRFrom t (some x) l := rfl

theorem entErrR_path {x : Ent} (h : entErrR x = 0) : pathErr x.path = 0 ∧ (x.path ≠ [] ∨ 5 ≤ x.kind) := by
  unfold entErrR at h
  split at h
  · omega
  · split at h
    · contradiction
    · rename_i h1 h2
      refine ⟨Classical.byContradiction h2, ?_⟩
      split at h
      · omega
      · rename_i h3
        by_cases hp : x.path = []
        · right; exact Int.not_lt.1 fun h4 => h3 ⟨hp, h4⟩
        · exact .inl hp
theorem cmpP_lt' {p d : Bytes} (h : ltP (els p) (els d) = true) : cmpP p d = -1 := by rw [cmpP, h]; rfl
theorem cmpP_ge' {p d : Bytes} (h : ltP (els p) (els d) = false) : cmpP p d = 0 ∨ cmpP p d = 1 := by
  rw [cmpP, h]
  cases ltP (els d) (els p) <;> simp
theorem parP_ok {s : Bytes} (h : pathErr s = 0) (hs : s ≠ []) : parP s = (upP s, 0) := by rw [parP, if_neg (by omega), if_neg hs]
end Go.Proofs.YtcbmdghnlbieeaaGreatDoor
