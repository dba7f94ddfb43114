/-
  Walks of layer 4 (blake2s): mix.
-/
import Derived.Test.YtmapjaihkmjmmaaDoorBlkA
namespace Go.Proofs.YtmapjaihkmjmmaaDoor
open Go.RowKit

set_option maxRecDepth 100000 in
set_option maxHeartbeats 1000000 in
theorem blk_mix (b : Nat) (l : List Int) (t : TypeId) (qa qb qc qd : Nat) (x y : Int) (w : World) (hV : w.heap[b]? = some (.cells (row l) t (0, 0))) (hz : l.length = 16)
    (h1 : qa < 16) (h2 : qb < 16) (h3 : qc < 16) (h4 : qd < 16) (hab : qa ≠ qb) (hac : qa ≠ qc) (had : qa ≠ qd) (hbc : qb ≠ qc) (hbd : qb ≠ qd) (hcd : qc ≠ qd) :
    Calls Tryd.prog 57 #[.pointer (some ⟨b, 0, none⟩), .agg #[.int .i64 qa, .int .i64 qb, .int .i64 qc, .int .i64 qd], .int .u32 x, .int .u32 y] w fun e w' => e = .returned (.tuple #[]) ∧ w.grownBy w' (some b) ∧ w'.heap[b]? = some (.cells (row (mixP l qa qb qc qd x y)) t (0, 0)) := by
  have ha := row_at (l := l) (i := qa) (by omega)
  have hb := row_at (l := l) (i := qb) (by omega)
  have hc := row_at (l := l) (i := qc) (by omega)
  have hd := row_at (l := l) (i := qd) (by omega)
  obtain ⟨va, eva⟩ : ∃ va, l.getD qa 0 = va := ⟨_, rfl⟩
  obtain ⟨vb, evb⟩ : ∃ vb, l.getD qb 0 = vb := ⟨_, rfl⟩
  obtain ⟨vc, evc⟩ : ∃ vc, l.getD qc 0 = vc := ⟨_, rfl⟩
  obtain ⟨vd, evd⟩ : ∃ vd, l.getD qd 0 = vd := ⟨_, rfl⟩
  have Hm := Lib.hid (show mixP l qa qb qc qd x y = (((l.set qa (mixW va vb vc vd x y).1).set qb (mixW va vb vc vd x y).2.1).set qc (mixW va vb vc vd x y).2.2.1).set qd (mixW va vb vc vd x y).2.2.2 by rw [mixP, eva, evb, evc, evd])
  rw [eva] at ha
  rw [evb] at hb
  rw [evc] at hc
  rw [evd] at hd
  clear eva evb evc evd
  generalize hVl : row l = V at hV ha hb hc hd
  have HVl := Lib.hid hVl; clear hVl hz
  have ca := cell_of_row w b qa _ _ _ hV
  have cb := cell_of_row w b qb _ _ _ hV
  have cc := cell_of_row w b qc _ _ _ hV
  have cd := cell_of_row w b qd _ _ _ hV
  rw [ha] at ca
  rw [hb] at cb
  rw [hc] at cc
  rw [hd] at cd
  have ca' := cell_regrown (cell_past (.cells #[.int .i64 qa, .int .i64 qb, .int .i64 qc, .int .i64 qd] 89) ca)
  have cb' := cell_regrown (cell_past (.cells #[.int .i64 qa, .int .i64 qb, .int .i64 qc, .int .i64 qd] 89) cb)
  have cc' := cell_regrown (cell_past (.cells #[.int .i64 qa, .int .i64 qb, .int .i64 qc, .int .i64 qd] 89) cc)
  have cd' := cell_regrown (cell_past (.cells #[.int .i64 qa, .int .i64 qb, .int .i64 qc, .int .i64 qd] 89) cd)
  have box0 := cell_regrown (show (w.alloc (.cells #[.int .i64 qa, .int .i64 qb, .int .i64 qc, .int .i64 qd] 89)).cell? ⟨w.heap.size, 0, none⟩ = some (.int .i64 qa) by simp)
  have box1 := cell_regrown (show (w.alloc (.cells #[.int .i64 qa, .int .i64 qb, .int .i64 qc, .int .i64 qd] 89)).cell? ⟨w.heap.size, 1, none⟩ = some (.int .i64 qb) by simp)
  have box2 := cell_regrown (show (w.alloc (.cells #[.int .i64 qa, .int .i64 qb, .int .i64 qc, .int .i64 qd] 89)).cell? ⟨w.heap.size, 2, none⟩ = some (.int .i64 qc) by simp)
  have box3 := cell_regrown (show (w.alloc (.cells #[.int .i64 qa, .int .i64 qb, .int .i64 qc, .int .i64 qd] 89)).cell? ⟨w.heap.size, 3, none⟩ = some (.int .i64 qd) by simp)
  go_enter Tryd.func57, Tryd.ntmps57
  go_wp2_with fail
  refine wp_region_quiet_below (by kernel_rfl) (by kernel_rfl) ?_
  repeat (go_big_quiet_step ((fail)))
  refine wpQuiet_nil ?_
  intro w2 hwq
  have hb2 : Below (w.alloc (.cells #[.int .i64 qa, .int .i64 qb, .int .i64 qc, .int .i64 qd] 89)).heap.size (w.alloc (.cells #[.int .i64 qa, .int .i64 qb, .int .i64 qc, .int .i64 qd] 89)) w2 := by
    obtain ⟨pq, rfl⟩ := hwq
    exact below_regrown _ _ _
  clear hwq
  obtain ⟨i0, i1, i2, i3⟩ : w2.cell? ⟨w.heap.size, 0, none⟩ = some (.int .i64 qa) ∧ w2.cell? ⟨w.heap.size, 1, none⟩ = some (.int .i64 qb) ∧ w2.cell? ⟨w.heap.size, 2, none⟩ = some (.int .i64 qc) ∧ w2.cell? ⟨w.heap.size, 3, none⟩ = some (.int .i64 qd) :=
    ⟨by rw [hb2.cell (by simp)]; simp, by rw [hb2.cell (by simp)]; simp, by rw [hb2.cell (by simp)]; simp, by rw [hb2.cell (by simp)]; simp⟩
  clear ca' cb' cc' cd' box0 box1 box2 box3
  have hbw : b < w.heap.size := by simpa using block_lt_of_cell ca
  have hbn : b ≠ w.heap.size := by omega
  have hV2 : w2.heap[b]? = some (.cells V t (0, 0)) := (hb2.block b (by have := block_lt_of_cell ca; simp; simp at this; omega)).trans ((Below.heap_alloc w _ b (by have := block_lt_of_cell ca; simpa using this)).trans hV)
  have Hg := Lib.hid (show w.grownBy w2 (some b) from grown_below (((Below.refl _ w).alloc (Nat.le_refl _) _).trans (hb2.mono (by simp))) (Nat.le_refl _))
  clear hb2
  go_wp2_with fail
  refine (bits_rotl _ 16 65536 65536 (.inl ⟨rfl, rfl, rfl⟩) _).mono ?_
  rintro e w' ⟨rfl, rfl⟩
  generalize hD1 : rotr 65536 65536 (bits .xor .u32 vd ((va + (vb + x)) % 4294967296)) = D1
  have HD1 := Lib.hid hD1; clear hD1
  go_wp2_with fail
  refine (bits_rotl _ 12 4096 1048576 (.inr (.inl ⟨rfl, rfl, rfl⟩)) _).mono ?_
  rintro e w' ⟨rfl, rfl⟩
  generalize hB1 : rotr 4096 1048576 (bits .xor .u32 vb ((vc + D1) % 4294967296)) = B1
  have HB1 := Lib.hid hB1; clear hB1
  go_wp2_with fail
  refine (bits_rotl _ 8 256 16777216 (.inr (.inr (.inl ⟨rfl, rfl, rfl⟩))) _).mono ?_
  rintro e w' ⟨rfl, rfl⟩
  generalize hA2 : (va + (vb + x) + (B1 + y)) % 4294967296 = A2
  have HA2 := Lib.hid hA2; clear hA2
  generalize hD2 : rotr 256 16777216 (bits .xor .u32 D1 A2) = D2
  have HD2 := Lib.hid hD2; clear hD2
  go_wp2_with fail
  refine (bits_rotl _ 7 128 33554432 (.inr (.inr (.inr ⟨rfl, rfl, rfl⟩))) _).mono ?_
  rintro e w' ⟨rfl, rfl⟩
  generalize hC2 : (vc + D1 + D2) % 4294967296 = C2
  have HC2 := Lib.hid hC2; clear hC2
  generalize hB2 : rotr 128 33554432 (bits .xor .u32 B1 C2) = B2
  have HB2 := Lib.hid hB2; clear hB2
  go_wp2_with fail
  clear ca cb cc cd
  have ca := cell_of_row _ b qa _ _ _ hV2
  have cb := cell_of_row _ b qb _ _ _ hV2
  have cc := cell_of_row _ b qc _ _ _ hV2
  have cd := cell_of_row _ b qd _ _ _ hV2
  rw [ha] at ca
  rw [hb] at cb
  rw [hc] at cc
  rw [hd] at cd
  have fa := frozen_of_row _ b qa _ _ hV2
  have fb := frozen_of_row _ b qb _ _ hV2
  have fc := frozen_of_row _ b qc _ _ hV2
  have fd := frozen_of_row _ b qd _ _ hV2
  have HV2 := Lib.hid hV2
  have HV := Lib.hid hV
  clear hV2 hV ha hb hc hd
  rw [HA2.out, HC2.out]
  go_big_region
  go_end0
  have hm : mixW va vb vc vd x y = (A2, B2, C2, D2) := by
    have e1 : (va + (vb + x) + (B1 + y)) % 4294967296 = ((va + (vb + x)) % 4294967296 + (B1 + y)) % 4294967296 := by omega
    have e2 : (vc + D1 + D2) % 4294967296 = ((vc + D1) % 4294967296 + D2) % 4294967296 := by omega
    unfold mixW
    simp only [HD1.out, HB1.out, ← e1, HA2.out, HD2.out, ← e2, HC2.out, HB2.out]
  rw [Hm.out, hm]
  have hV2 := HV2.out
  rw [← HVl.out] at hV2
  refine ⟨rfl, grown_trans Hg.out ?_, heap_setCell _ (heap_setCell _ (heap_setCell _ (heap_setCell _ hV2)))⟩
  exact grown_drew (grown_trans (grown_trans (grown_trans (grown_setCell _ ⟨b, qa, none⟩ _) (grown_setCell _ ⟨b, qb, none⟩ _)) (grown_setCell _ ⟨b, qc, none⟩ _)) (grown_setCell _ ⟨b, qd, none⟩ _))
end Go.Proofs.YtmapjaihkmjmmaaDoor
