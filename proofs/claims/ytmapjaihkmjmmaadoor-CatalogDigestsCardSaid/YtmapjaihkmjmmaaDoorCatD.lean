/-
  Walks of layer 57: index, Same, Right.
-/
import Derived.Test.YtmapjaihkmjmmaaDoorCatC
import Derived.Test.YtmapjaihkmjmmaaDoorLibB
namespace Go.Proofs.YtmapjaihkmjmmaaDoor
open Go.RowKit

theorem S_inj {a b : Bytes} : (S a = S b) ↔ a = b := by
  constructor
  · intro h; simpa [S] using h
  · intro h; rw [h]

set_option maxRecDepth 100000 in
set_option maxHeartbeats 400000 in
theorem cat_index1 (I : IH) (hI : Glob I) (v : Value) (l : List Rec) (hv : RdS tRec I v l) (hl : ∀ r ∈ l, r.Wf) (key : Bytes) (i : Nat) (r : Rec) (hr : l[i]? = some r) (bl bk : Nat) (w : World) (hw : Ok I w)
    (hc1 : w.cell? ⟨bl, 0, none⟩ = some v) (hc2 : w.cell? ⟨bk, 0, none⟩ = some (S key)) :
    Calls Tryd.prog 37 #[.int .i64 i, .pointer (some ⟨bl, 0, none⟩), .pointer (some ⟨bk, 0, none⟩)] w fun e w' => e = .returned (.bool (!(Op.bytesLess (recKey r) key))) ∧ Below w.heap.size w w' := by
  have hlen := hv.len_le
  obtain ⟨hi, hri⟩ := List.getElem?_eq_some_iff.1 hr
  obtain ⟨q, b, off, cap, hq, rfl, hq0, hq1, hq2⟩ := recAt hv hw i hi
  have e : q = r := by rw [← hq, hri]
  subst e
  have hrw := Lib.hid (hl q (by rw [← hq]; exact List.getElem_mem hi))
  have Hv := Lib.hid hv
  clear hv hr hl hri hq
  have hg1 := cell_regrown hc1
  have hg2 := cell_regrown hc2
  have hy0 := cell_regrown hq0
  have hy1 := cell_regrown hq1
  have hy2 := cell_regrown hq2
  go_enter Tryd.func37, Tryd.ntmps37
  go_wp2_with fail
  refine wp_region_quiet_below (by kernel_rfl) (by kernel_rfl) ?_
  repeat (go_big_quiet_step ((with_reducible exact Calls.regrown_of (cat_Key I hI q hrw.out _ (hw.below (Nat.le_refl _) (below_regrown _ _ _))))))
  refine wpQuiet_nil ?_
  intro w2 hwq
  have hb2 : Below (w).heap.size (w) w2 := by
    obtain ⟨pq, rfl⟩ := hwq
    exact below_regrown _ _ _
  clear hwq
  go_wp2
  go_ret
  exact ⟨rfl, hb2⟩

/-- The place of the first record that is not before a key, by binary search. -/
def recIndex (l : List Rec) (key : Bytes) : Nat := bs (fun i => (l[i]?).all fun r => !(Op.bytesLess (recKey r) key)) 0 l.length

set_option maxRecDepth 100000 in
set_option maxHeartbeats 400000 in
theorem cat_index (I : IH) (hI : Glob I) (v : Value) (l : List Rec) (hv : RdS tRec I v l) (hl : ∀ r ∈ l, r.Wf) (hn : l.length ≤ 1000000) (key : Bytes) (w : World) (hw : Ok I w) :
    Calls Tryd.prog 25 #[v, S key] w fun e w' => e = .returned (.int .i64 (recIndex l key)) ∧ Below w.heap.size w w' := by
  obtain ⟨ao, cap, rfl, hcap, hcm, _⟩ := id hv
  have Hv := Lib.hid hv; clear hv
  have Hl := Lib.hid hl; clear hl
  go_enter Tryd.func25, Tryd.ntmps25
  go_wp2_with fail
  refine (lib_Search 37 #[.pointer (some ⟨w.heap.size, 0, none⟩), .pointer (some ⟨w.heap.size + 1, 0, none⟩)] _ (fun i => (l[i]?).all fun r => !(Op.bytesLess (recKey r) key)) _ (fun _ _ => by kernel_rfl) (by omega) (by omega) (fun i W hi hb => ?_)).mono ?_
  · have hi' : i < l.length := by omega
    have hb' : Below (w.heap.size + 1 + 1) ((w.alloc (.cells #[.slice ao l.length cap] 22)).alloc (.cells #[S key] 9)) W := hb.mono (by simp)
    have hok : Ok I W := ((hw.alloc _).alloc _).below (by simp) hb'
    rw [List.getElem?_eq_getElem hi']
    exact cat_index1 I hI _ l Hv.out Hl.out key i l[i] (List.getElem?_eq_getElem hi') w.heap.size (w.heap.size + 1) W hok (by rw [hb'.cell (by simp; omega)]; simp [go_sem]) (by rw [hb'.cell (by simp)]; simp [go_sem])
  · rintro e w1 ⟨rfl, hb1⟩
    go_wp2
    go_ret
    exact ⟨rfl, (((Below.refl _ _).alloc (Nat.le_refl _) _).alloc (by simp) _).trans (hb1.mono (by simp; omega))⟩

/-- A valid list within the size that the statements examine. -/
def recRight (l : List Rec) : Int := if l.length ≤ 100 ∧ recCheck l = 0 then 1 else 0

set_option maxRecDepth 100000 in
set_option maxHeartbeats 400000 in
theorem ref57_Right (I : IH) (v : Value) (l : List Rec) (hv : RdS tRec I v l) (hl : ∀ r ∈ l, r.Wf) (w : World) (hw : Ok I w) :
    Calls Tryd.prog 14 #[v] w fun e w' => e = .returned (.int .i64 (recRight l)) ∧ Below w.heap.size w w' := by
  obtain ⟨ao, cap, rfl, hcap, hcm, _⟩ := id hv
  have Hv := Lib.hid hv; clear hv
  have Hl := Lib.hid hl; clear hl
  by_cases h1 : l.length ≤ 100
  · have hd : decide (100 < l.length) = false := by simp; omega
    by_cases h2 : recCheck l = 0
    · have h2' : (recCheck l != 0) = false := by simpa using h2
      have H2 := Lib.hid h2; clear h2
      go_enter Tryd.func14, Tryd.ntmps14
      go_wp2_with (go_at_call 13; refine (ref57_Check I _ l Hv.out Hl.out _ hw).mono ?_; rintro e w1 ⟨rfl, hb1⟩)
      go_ret
      exact ⟨ret_i (by rw [recRight, if_pos ⟨h1, H2.out⟩]), hb1⟩
    · have h2' : (recCheck l != 0) = true := by simpa using h2
      have H2 := Lib.hid h2; clear h2
      go_enter Tryd.func14, Tryd.ntmps14
      go_wp2_with (go_at_call 13; refine (ref57_Check I _ l Hv.out Hl.out _ hw).mono ?_; rintro e w1 ⟨rfl, hb1⟩)
      go_ret
      exact ⟨ret_i (by rw [recRight, if_neg (fun h => H2.out h.2)]), hb1⟩
  · have hd : decide (100 < l.length) = true := by simp; omega
    go_enter Tryd.func14, Tryd.ntmps14
    go_wp2
    go_ret
    exact ⟨ret_i (by rw [recRight, if_neg (fun h => h1 h.1)]), Below.refl _ _⟩

theorem run_neq_rec (a b : Rec) (W : World) : (binOp .neq 25 (.agg #[.int .u32 a.a, .int .i64 a.s, S a.d]) (.agg #[.int .u32 b.a, .int .i64 b.s, S b.d])).run Tryd.prog W = .ok (.bool (!decide (a = b))) W := by
  rw [run_neq_of _ _ [(23, 0, false), (3, 1, false), (9, 2, false)] W (by kernel_rfl) (by kernel_rfl) (by kernel_rfl)]
  obtain ⟨a1, a2, a3⟩ := a
  obtain ⟨b1, b2, b3⟩ := b
  simp [go_sem]
  by_cases h1 : a1 = b1 <;> by_cases h2 : a2 = b2 <;> by_cases h3 : a3 = b3 <;> simp [h1, h2, h3] <;> omega

set_option maxRecDepth 100000 in
set_option maxHeartbeats 400000 in
theorem ref57_Same (I : IH) (v1 v2 : Value) (l1 l2 : List Rec) (hv1 : RdS tRec I v1 l1) (hv2 : RdS tRec I v2 l2) (w : World) (hw : Ok I w) :
    Calls Tryd.prog 17 #[v1, v2] w fun e w' => e = .returned (.bool (decide (l1 = l2))) ∧ Below w.heap.size w w' := by
  have hlen := hv1.len_le
  have hlen2 := hv2.len_le
  obtain ⟨ao, cap, rfl, hcap, hcm, _⟩ := id hv1
  obtain ⟨ao2, cap2, rfl, hcap2, hcm2, _⟩ := id hv2
  have Hv1 := Lib.hid hv1; clear hv1
  have Hv2 := Lib.hid hv2; clear hv2
  by_cases hll : l1.length = l2.length
  · have hn : ((l1.length : Int) != (l2.length : Int)) = false := by rw [hll]; simp
    have Hll := Lib.hid hll; clear hll
    go_enter Tryd.func17, Tryd.ntmps17
    go_wp2
    go_loopw [13] (fun s13 wr => ∃ k : Nat, k ≤ l1.length ∧ s13 = .int .i64 k ∧ l1.take k = l2.take k ∧ Below w.heap.size w wr) (fun i _ => l1.length - (intOf i).toNat)
    case atStart => exact ⟨0, Nat.zero_le _, rfl, rfl, Below.refl _ _⟩
    case round =>
      obtain ⟨k, hk, rfl, hr, hb⟩ := hrel
      have Hr := Lib.hid hr; clear hr
      by_cases hlt : k < l1.length
      · have hlt2 : k < l2.length := by rw [← Hll.out]; exact hlt
        have hwr : Ok I wr := hw.below (Nat.le_refl _) hb
        obtain ⟨p, b, off, cap', hp, hvv, hp0, hp1, hp2⟩ := recAt Hv1.out hwr k hlt
        cases hvv
        obtain ⟨q, b', off', cap'', hq, hvv, hq0, hq1, hq2⟩ := recAt Hv2.out hwr k hlt2
        cases hvv
        have Hp := Lib.hid hp; clear hp
        have Hq := Lib.hid hq; clear hq
        have hg0 := cell_regrown hp0
        have hg1 := cell_regrown hp1
        have hg2 := cell_regrown hp2
        have hy0 := cell_regrown hq0
        have hy1 := cell_regrown hq1
        have hy2 := cell_regrown hq2
        have hneq := run_neq_rec p q
        by_cases hpq : p = q
        · rw [decide_eq_true hpq] at hneq
          go_wp2_with fail
          refine wp_region_quiet_below (by kernel_rfl) (by kernel_rfl) ?_
          repeat (go_big_quiet_step ((fail)))
          refine wpQuiet_nil ?_
          intro w2 hwq
          have hb2 : Below (wr).heap.size (wr) w2 := by
            obtain ⟨pq, rfl⟩ := hwq
            exact below_regrown _ _ _
          clear hwq
          go_wp2
          go_roundw
          case rel => exact ⟨k + 1, by omega, by go_num, by rw [List.take_succ_eq_append_getElem hlt, List.take_succ_eq_append_getElem hlt2, Hr.out, Hp.out, Hq.out, hpq], hb.trans (hb2.mono hb.size)⟩
          case measure => simp [intOf]; omega
        · rw [decide_eq_false hpq] at hneq
          go_wp2_with fail
          refine wp_region_quiet_below (by kernel_rfl) (by kernel_rfl) ?_
          repeat (go_big_quiet_step ((fail)))
          refine wpQuiet_nil ?_
          intro w2 hwq
          have hb2 : Below (wr).heap.size (wr) w2 := by
            obtain ⟨pq, rfl⟩ := hwq
            exact below_regrown _ _ _
          clear hwq
          go_wp2
          go_ret
          refine ⟨ret_b ?_, hb.trans (hb2.mono hb.size)⟩
          symm
          rw [decide_eq_false_iff_not]
          intro h
          apply hpq
          rw [← Hp.out, ← Hq.out]
          simp [h]
      · go_wp2
        go_ret
        refine ⟨ret_b ?_, hb⟩
        symm
        rw [decide_eq_true_iff]
        have := Hr.out
        rwa [List.take_of_length_le (by omega), List.take_of_length_le (by rw [← Hll.out]; omega)] at this
  · have hn : ((l1.length : Int) != (l2.length : Int)) = true := by rw [bne_iff_ne]; omega
    go_enter Tryd.func17, Tryd.ntmps17
    go_wp2
    go_ret
    exact ⟨ret_b (by simp; intro h; exact hll (by rw [h])), Below.refl _ _⟩
end Go.Proofs.YtmapjaihkmjmmaaDoor
