/-
  Walks of layer 4 (blake2s): the rotations.
  Walks of layer 4 (blake2s): mix.
  Plain data and steps of layer 4 (blake2s), and the two tables that the program builds.
  Walks of layer 4 (blake2s): Compress.
-/
import Derived.Test.YtcbmdghnlbieeaaGreatDoorZA
import Derived.BigRegion
import Derived.Test.YtcbmdghnlbieeaaGreatDoorProg
import Derived.OpenShut
import Derived.DataShut
import Derived.Laws.ResultCell
import Derived.Deep.WholeRow
import Derived.Laws.CopyOwn
import Derived.Deep.DeepCutAuto
import Derived.Shelf.Spec.SlicesInsert
import Derived.StillTailTactics
namespace Go.Proofs.YtcbmdghnlbieeaaGreatDoor
open Go.RowKit

/-- A word rotated right by k places; d is 2^k, m is 2^(32-k). -/
def rotr (d m x : Int) : Int := bits .or .u32 (x / d) (x * m % 4294967296)

theorem bits_or_comm (k : IntKind) (x y : Int) : bits .or k x y = bits .or k y x := by
  simp only [bits, BitVec.or_comm]

theorem u32_bits (op : BinOp) (x y : Int) : 0 ≤ bits op .u32 x y ∧ bits op .u32 x y < 4294967296 := by
  have h := Go.wf_bits op .u32 x y
  rw [Go.Lit.wf_int_iff] at h
  have k0 : IntKind.u32.min = 0 := rfl
  have k1 : IntKind.u32.max = 4294967295 := rfl
  omega
theorem u32_rotr (d m x : Int) : 0 ≤ rotr d m x ∧ rotr d m x < 4294967296 := u32_bits _ _ _

/-- d, m: the places of a rotation. -/
def RotAt (k d m : Int) : Prop := (k = 16 ∧ d = 65536 ∧ m = 65536) ∨ (k = 12 ∧ d = 4096 ∧ m = 1048576) ∨ (k = 8 ∧ d = 256 ∧ m = 16777216) ∨ (k = 7 ∧ d = 128 ∧ m = 33554432)

set_option maxRecDepth 100000 in
theorem bits_rotl (x : Int) (k d m : Int) (hk : RotAt k d m) (w : World) :
    Calls Tryz.prog 147 #[.int .u32 x, .int .i64 (-k)] w fun e w' => e = .returned (.int .u32 (rotr d m x)) ∧ w' = w := by
  rcases hk with ⟨rfl, rfl, rfl⟩ | ⟨rfl, rfl, rfl⟩ | ⟨rfl, rfl, rfl⟩ | ⟨rfl, rfl, rfl⟩
  · have e1 : IntKind.u64.wrap (-16) = 18446744073709551600 := by decide
    have e2 : bits .and .u64 18446744073709551600 31 = 16 := by decide
    go_enter Tryz.func147, Tryz.ntmps147
    go_wp2
    go_ret
    exact ⟨ret_i (bits_or_comm _ _ _), rfl⟩
  · have e1 : IntKind.u64.wrap (-12) = 18446744073709551604 := by decide
    have e2 : bits .and .u64 18446744073709551604 31 = 20 := by decide
    go_enter Tryz.func147, Tryz.ntmps147
    go_wp2
    go_ret
    exact ⟨ret_i (bits_or_comm _ _ _), rfl⟩
  · have e1 : IntKind.u64.wrap (-8) = 18446744073709551608 := by decide
    have e2 : bits .and .u64 18446744073709551608 31 = 24 := by decide
    go_enter Tryz.func147, Tryz.ntmps147
    go_wp2
    go_ret
    exact ⟨ret_i (bits_or_comm _ _ _), rfl⟩
  · have e1 : IntKind.u64.wrap (-7) = 18446744073709551609 := by decide
    have e2 : bits .and .u64 18446744073709551609 31 = 25 := by decide
    go_enter Tryz.func147, Tryz.ntmps147
    go_wp2
    go_ret
    exact ⟨ret_i (bits_or_comm _ _ _), rfl⟩

set_option maxRecDepth 100000 in
theorem ref04_rotate (x : Int) (k d m : Int) (hk : RotAt k d m) (w : World) :
    Calls Tryz.prog 197 #[.int .u32 x, .int .u64 k] w fun e w' => e = .returned (.int .u32 (rotr d m x)) ∧ w' = w := by
  rcases hk with ⟨rfl, rfl, rfl⟩ | ⟨rfl, rfl, rfl⟩ | ⟨rfl, rfl, rfl⟩ | ⟨rfl, rfl, rfl⟩
  all_goals
    go_enter Tryz.func197, Tryz.ntmps197
    go_wp2
    go_ret
    exact ⟨ret_i rfl, rfl⟩
/-- A row of words. -/
def row (l : List Int) : Array Value := (l.map fun x => Value.int .u32 x).toArray
@[simp] theorem row_size (l : List Int) : (row l).size = l.length := by simp [row]
theorem row_at {l : List Int} {i : Nat} (h : i < l.length) : (row l)[i]? = some (.int .u32 (l.getD i 0)) := by
  simp [row, List.getD, List.getElem?_eq_getElem h]
theorem row_set (l : List Int) (i : Nat) (v : Int) : (row l).setIfInBounds i (.int .u32 v) = row (l.set i v) := by
  simp [row, List.map_set]

theorem heap_setCell {w : World} {b i : Nat} {l : List Int} {t : TypeId} {f : Nat × Nat} (v : Int) (h : w.heap[b]? = some (.cells (row l) t f)) : (w.setCell ⟨b, i, none⟩ (.int .u32 v)).heap[b]? = some (.cells (row (l.set i v)) t f) := by
  unfold World.setCell
  rw [Array.getElem?_modify, if_pos rfl, h]
  simp [row_set]
theorem grown_setCell (w : World) (a : Addr) (u : Value) : w.grownBy (w.setCell a u) (some a.block) :=
  ⟨rfl, rfl, rfl, by simp [World.setCell], fun k _ hne => Below.heap_setCell _ _ _ _ (fun e => hne (by rw [e]))⟩
theorem grown_below {B : Nat} {w w' : World} {r : Option Nat} (h : Below B w w') (hB : w.heap.size ≤ B) : w.grownBy w' r :=
  ⟨h.os, h.tape, h.output, h.size, fun k hk _ => h.block k (by omega)⟩
theorem grown_trans {w w1 w2 : World} {r : Option Nat} (h : w.grownBy w1 r) (k : w1.grownBy w2 r) : w.grownBy w2 r :=
  ⟨k.os.trans h.os, k.tape.trans h.tape, k.output.trans h.output, Nat.le_trans h.size k.size, fun j hj hne => (k.block j (Nat.lt_of_lt_of_le hj h.size) hne).trans (h.block j hj hne)⟩

theorem grown_drew {w w' : World} {r : Option Nat} (h : w.grownBy w' r) : w.grownBy w'.drew r := ⟨h.os, h.tape, h.output, h.size, h.block⟩

/-- One mixing of four words with two. -/
def mixW (a b c d x y : Int) : Int × Int × Int × Int :=
  let a1 := (a + (b + x)) % 4294967296
  let d1 := rotr 65536 65536 (bits .xor .u32 d a1)
  let c1 := (c + d1) % 4294967296
  let b1 := rotr 4096 1048576 (bits .xor .u32 b c1)
  let a2 := (a1 + (b1 + y)) % 4294967296
  let d2 := rotr 256 16777216 (bits .xor .u32 d1 a2)
  let c2 := (c1 + d2) % 4294967296
  (a2, rotr 128 33554432 (bits .xor .u32 b1 c2), c2, d2)
/-- .. at four places of a row. -/
def mixP (l : List Int) (a b c d : Nat) (x y : Int) : List Int :=
  let r := mixW (l.getD a 0) (l.getD b 0) (l.getD c 0) (l.getD d 0) x y
  (((l.set a r.1).set b r.2.1).set c r.2.2.1).set d r.2.2.2
theorem mixP_length (l : List Int) (a b c d : Nat) (x y : Int) : (mixP l a b c d x y).length = l.length := by simp [mixP]
end Go.Proofs.YtcbmdghnlbieeaaGreatDoor
namespace Go.Proofs.YtcbmdghnlbieeaaGreatDoor
open Go.RowKit

set_option maxRecDepth 100000 in
set_option maxHeartbeats 1000000 in
theorem blk_mix (b : Nat) (l : List Int) (t : TypeId) (qa qb qc qd : Nat) (x y : Int) (w : World) (hV : w.heap[b]? = some (.cells (row l) t (0, 0))) (hz : l.length = 16)
    (h1 : qa < 16) (h2 : qb < 16) (h3 : qc < 16) (h4 : qd < 16) (hab : qa ≠ qb) (hac : qa ≠ qc) (had : qa ≠ qd) (hbc : qb ≠ qc) (hbd : qb ≠ qd) (hcd : qc ≠ qd) :
    Calls Tryz.prog 121 #[.pointer (some ⟨b, 0, none⟩), .agg #[.int .i64 qa, .int .i64 qb, .int .i64 qc, .int .i64 qd], .int .u32 x, .int .u32 y] w fun e w' => e = .returned (.tuple #[]) ∧ w.grownBy w' (some b) ∧ w'.heap[b]? = some (.cells (row (mixP l qa qb qc qd x y)) t (0, 0)) := by
  have ha := row_at (l := l) (i := qa) (by omega)
  have hb := row_at (l := l) (i := qb) (by omega)
  have hc := row_at (l := l) (i := qc) (by omega)
  have hd := row_at (l := l) (i := qd) (by omega)
  obtain ⟨va, eva⟩ : ∃ va, l.getD qa 0 = va := ⟨_, rfl⟩
  obtain ⟨vb, evb⟩ : ∃ vb, l.getD qb 0 = vb := ⟨_, rfl⟩
  obtain ⟨vc, evc⟩ : ∃ vc, l.getD qc 0 = vc := ⟨_, rfl⟩
  obtain ⟨vd, evd⟩ : ∃ vd, l.getD qd 0 = vd := ⟨_, rfl⟩
  have Hm := Lib.hid (show mixP l qa qb qc qd x y = (((l.set qa (mixW va vb vc vd x y).1).set qb (mixW va vb vc vd x y).2.1).set qc (mixW va vb vc vd x y).2.2.1).set qd (mixW va vb vc vd x y).2.2.2 by rw [mixP, eva, evb, evc, evd])
  rw [eva] at ha
  rw [evb] at hb
  rw [evc] at hc
  rw [evd] at hd
  clear eva evb evc evd
  generalize hVl : row l = V at hV ha hb hc hd
  have HVl := Lib.hid hVl; clear hVl hz
  have ca := cell_of_row w b qa _ _ _ hV
  have cb := cell_of_row w b qb _ _ _ hV
  have cc := cell_of_row w b qc _ _ _ hV
  have cd := cell_of_row w b qd _ _ _ hV
  rw [ha] at ca
  rw [hb] at cb
  rw [hc] at cc
  rw [hd] at cd
  have ca' := cell_regrown (cell_past (.cells #[.int .i64 qa, .int .i64 qb, .int .i64 qc, .int .i64 qd] 122) ca)
  have cb' := cell_regrown (cell_past (.cells #[.int .i64 qa, .int .i64 qb, .int .i64 qc, .int .i64 qd] 122) cb)
  have cc' := cell_regrown (cell_past (.cells #[.int .i64 qa, .int .i64 qb, .int .i64 qc, .int .i64 qd] 122) cc)
  have cd' := cell_regrown (cell_past (.cells #[.int .i64 qa, .int .i64 qb, .int .i64 qc, .int .i64 qd] 122) cd)
  have box0 := cell_regrown (show (w.alloc (.cells #[.int .i64 qa, .int .i64 qb, .int .i64 qc, .int .i64 qd] 122)).cell? ⟨w.heap.size, 0, none⟩ = some (.int .i64 qa) by simp)
  have box1 := cell_regrown (show (w.alloc (.cells #[.int .i64 qa, .int .i64 qb, .int .i64 qc, .int .i64 qd] 122)).cell? ⟨w.heap.size, 1, none⟩ = some (.int .i64 qb) by simp)
  have box2 := cell_regrown (show (w.alloc (.cells #[.int .i64 qa, .int .i64 qb, .int .i64 qc, .int .i64 qd] 122)).cell? ⟨w.heap.size, 2, none⟩ = some (.int .i64 qc) by simp)
  have box3 := cell_regrown (show (w.alloc (.cells #[.int .i64 qa, .int .i64 qb, .int .i64 qc, .int .i64 qd] 122)).cell? ⟨w.heap.size, 3, none⟩ = some (.int .i64 qd) by simp)
  go_enter Tryz.func121, Tryz.ntmps121
  go_wp2_with fail
  refine wp_region_quiet_below (by kernel_rfl) (by kernel_rfl) ?_
  repeat (go_big_quiet_step ((fail)))
  refine wpQuiet_nil ?_
  intro w2 hwq
  have hb2 : Below (w.alloc (.cells #[.int .i64 qa, .int .i64 qb, .int .i64 qc, .int .i64 qd] 122)).heap.size (w.alloc (.cells #[.int .i64 qa, .int .i64 qb, .int .i64 qc, .int .i64 qd] 122)) w2 := by
    obtain ⟨pq, rfl⟩ := hwq
    exact below_regrown _ _ _
  clear hwq
  obtain ⟨i0, i1, i2, i3⟩ : w2.cell? ⟨w.heap.size, 0, none⟩ = some (.int .i64 qa) ∧ w2.cell? ⟨w.heap.size, 1, none⟩ = some (.int .i64 qb) ∧ w2.cell? ⟨w.heap.size, 2, none⟩ = some (.int .i64 qc) ∧ w2.cell? ⟨w.heap.size, 3, none⟩ = some (.int .i64 qd) :=
    ⟨by rw [hb2.cell (by simp)]; simp, by rw [hb2.cell (by simp)]; simp, by rw [hb2.cell (by simp)]; simp, by rw [hb2.cell (by simp)]; simp⟩
  clear ca' cb' cc' cd' box0 box1 box2 box3
  have hbw : b < w.heap.size := by simpa using block_lt_of_cell ca
  have hbn : b ≠ w.heap.size := by omega
  have hV2 : w2.heap[b]? = some (.cells V t (0, 0)) := (hb2.block b (by have := block_lt_of_cell ca; simp; simp at this; omega)).trans ((Below.heap_alloc w _ b (by have := block_lt_of_cell ca; simpa using this)).trans hV)
  have Hg := Lib.hid (show w.grownBy w2 (some b) from grown_below (((Below.refl _ w).alloc (Nat.le_refl _) _).trans (hb2.mono (by simp))) (Nat.le_refl _))
  clear hb2
  go_wp2_with fail
  refine (bits_rotl _ 16 65536 65536 (.inl ⟨rfl, rfl, rfl⟩) _).mono ?_
  rintro e w' ⟨rfl, rfl⟩
  generalize hD1 : rotr 65536 65536 (bits .xor .u32 vd ((va + (vb + x)) % 4294967296)) = D1
  have HD1 := Lib.hid hD1; clear hD1
  go_wp2_with fail
  refine (bits_rotl _ 12 4096 1048576 (.inr (.inl ⟨rfl, rfl, rfl⟩)) _).mono ?_
  rintro e w' ⟨rfl, rfl⟩
  generalize hB1 : rotr 4096 1048576 (bits .xor .u32 vb ((vc + D1) % 4294967296)) = B1
  have HB1 := Lib.hid hB1; clear hB1
  go_wp2_with fail
  refine (bits_rotl _ 8 256 16777216 (.inr (.inr (.inl ⟨rfl, rfl, rfl⟩))) _).mono ?_
  rintro e w' ⟨rfl, rfl⟩
  generalize hA2 : (va + (vb + x) + (B1 + y)) % 4294967296 = A2
  have HA2 := Lib.hid hA2; clear hA2
  generalize hD2 : rotr 256 16777216 (bits .xor .u32 D1 A2) = D2
  have HD2 := Lib.hid hD2; clear hD2
  go_wp2_with fail
  refine (bits_rotl _ 7 128 33554432 (.inr (.inr (.inr ⟨rfl, rfl, rfl⟩))) _).mono ?_
  rintro e w' ⟨rfl, rfl⟩
  generalize hC2 : (vc + D1 + D2) % 4294967296 = C2
  have HC2 := Lib.hid hC2; clear hC2
  generalize hB2 : rotr 128 33554432 (bits .xor .u32 B1 C2) = B2
  have HB2 := Lib.hid hB2; clear hB2
  go_wp2_with fail
  clear ca cb cc cd
  have ca := cell_of_row _ b qa _ _ _ hV2
  have cb := cell_of_row _ b qb _ _ _ hV2
  have cc := cell_of_row _ b qc _ _ _ hV2
  have cd := cell_of_row _ b qd _ _ _ hV2
  rw [ha] at ca
  rw [hb] at cb
  rw [hc] at cc
  rw [hd] at cd
  have fa := frozen_of_row _ b qa _ _ hV2
  have fb := frozen_of_row _ b qb _ _ hV2
  have fc := frozen_of_row _ b qc _ _ hV2
  have fd := frozen_of_row _ b qd _ _ hV2
  have HV2 := Lib.hid hV2
  have HV := Lib.hid hV
  clear hV2 hV ha hb hc hd
  rw [HA2.out, HC2.out]
  go_big_region
  go_end0
  have hm : mixW va vb vc vd x y = (A2, B2, C2, D2) := by
    have e1 : (va + (vb + x) + (B1 + y)) % 4294967296 = ((va + (vb + x)) % 4294967296 + (B1 + y)) % 4294967296 := by omega
    have e2 : (vc + D1 + D2) % 4294967296 = ((vc + D1) % 4294967296 + D2) % 4294967296 := by omega
    unfold mixW
    simp only [HD1.out, HB1.out, ← e1, HA2.out, HD2.out, ← e2, HC2.out, HB2.out]
  rw [Hm.out, hm]
  have hV2 := HV2.out
  rw [← HVl.out] at hV2
  refine ⟨rfl, grown_trans Hg.out ?_, heap_setCell _ (heap_setCell _ (heap_setCell _ (heap_setCell _ hV2)))⟩
  exact grown_drew (grown_trans (grown_trans (grown_trans (grown_setCell _ ⟨b, qa, none⟩ _) (grown_setCell _ ⟨b, qb, none⟩ _)) (grown_setCell _ ⟨b, qc, none⟩ _)) (grown_setCell _ ⟨b, qd, none⟩ _))
end Go.Proofs.YtcbmdghnlbieeaaGreatDoor
namespace Go.Proofs.YtcbmdghnlbieeaaGreatDoor
open Go.RowKit

def blkPerms : List Int := [81985529216486895, 16881918945140062035, 13312731748010193300, 8733003861693448440, 10400822202260547645, 3200383143768358425, 14204332651957162635, 15816291393287259690, 8064173457993569445, 11710614767857974480]
def blkQuads : List (Nat × Nat × Nat × Nat) := [(0, 4, 8, 12), (1, 5, 9, 13), (2, 6, 10, 14), (3, 7, 11, 15), (0, 5, 10, 15), (1, 6, 11, 12), (2, 7, 8, 13), (3, 4, 9, 14)]
def blkSigma : List (List Nat) := [[0, 1, 2, 3, 4, 5, 6, 7, 8, 9, 10, 11, 12, 13, 14, 15], [14, 10, 4, 8, 9, 15, 13, 6, 1, 12, 0, 2, 11, 7, 5, 3], [11, 8, 12, 0, 5, 2, 15, 13, 10, 14, 3, 6, 7, 1, 9, 4], [7, 9, 3, 1, 13, 12, 11, 14, 2, 6, 5, 10, 4, 0, 15, 8], [9, 0, 5, 7, 2, 4, 10, 15, 14, 1, 11, 12, 6, 8, 3, 13], [2, 12, 6, 10, 0, 11, 8, 3, 4, 13, 7, 5, 15, 14, 1, 9], [12, 5, 1, 15, 14, 13, 4, 10, 0, 7, 6, 3, 9, 2, 8, 11], [13, 11, 7, 14, 12, 1, 3, 9, 5, 0, 15, 4, 8, 6, 2, 10], [6, 15, 14, 9, 11, 3, 0, 8, 12, 2, 13, 7, 1, 4, 10, 5], [10, 2, 8, 4, 7, 6, 1, 5, 15, 11, 9, 14, 3, 12, 13, 0]]
def quad (k : Nat) : Nat × Nat × Nat × Nat := blkQuads.getD k (0, 0, 0, 0)
def sigma (r i : Nat) : Nat := (blkSigma.getD r []).getD i 0
def permAt (r : Nat) : Int := blkPerms.getD r 0

/-- One step: mixing k of round r. -/
def stepP (m : List Int) (r k : Nat) (v : List Int) : List Int := mixP v (quad k).1 (quad k).2.1 (quad k).2.2.1 (quad k).2.2.2 (m.getD (sigma r (2 * k)) 0) (m.getD (sigma r (2 * k + 1)) 0)
def stepsP (m : List Int) (r : Nat) : Nat → List Int → List Int
  | 0, v => v
  | k + 1, v => stepP m r k (stepsP m r k v)
def roundsP (m : List Int) : Nat → List Int → List Int
  | 0, v => v
  | r + 1, v => stepsP m r 8 (roundsP m r v)
theorem stepP_length (m : List Int) (r k : Nat) (v : List Int) : (stepP m r k v).length = v.length := mixP_length ..
theorem stepsP_length (m : List Int) (r : Nat) : ∀ (k : Nat) (v : List Int), (stepsP m r k v).length = v.length
  | 0, _ => rfl
  | k + 1, v => by rw [stepsP, stepP_length, stepsP_length m r k v]
theorem roundsP_length (m : List Int) : ∀ (r : Nat) (v : List Int), (roundsP m r v).length = v.length
  | 0, _ => rfl
  | r + 1, v => by rw [roundsP, stepsP_length, roundsP_length m r v]

theorem quad_ok (k : Nat) (hk : k < 8) : (quad k).1 < 16 ∧ (quad k).2.1 < 16 ∧ (quad k).2.2.1 < 16 ∧ (quad k).2.2.2 < 16 ∧ (quad k).1 ≠ (quad k).2.1 ∧ (quad k).1 ≠ (quad k).2.2.1 ∧ (quad k).1 ≠ (quad k).2.2.2 ∧ (quad k).2.1 ≠ (quad k).2.2.1 ∧ (quad k).2.1 ≠ (quad k).2.2.2 ∧ (quad k).2.2.1 ≠ (quad k).2.2.2 := by
  revert k; decide
theorem sigma_ok (r i : Nat) (hr : r < 10) (hi : i < 16) : sigma r i < 16 := by
  revert i; revert r; decide
theorem nibble_ok (r k : Nat) (hr : r < 10) (hk : k < 8) : bits .and .u64 (permAt r / 2 ^ (60 - 8 * k)) 15 = (sigma r (2 * k) : Nat) ∧ bits .and .u64 (permAt r / 2 ^ (56 - 8 * k)) 15 = (sigma r (2 * k + 1) : Nat) := by
  revert k; revert r; decide

def permRow : Array Value := (blkPerms.map fun x => Value.int .u64 x).toArray
def quadV (q : Nat × Nat × Nat × Nat) : Value := .agg #[.int .i64 q.1, .int .i64 q.2.1, .int .i64 q.2.2.1, .int .i64 q.2.2.2]
def quadRow : Array Value := #[.int .i64 0, .int .i64 4, .int .i64 8, .int .i64 12, .int .i64 1, .int .i64 5, .int .i64 9, .int .i64 13, .int .i64 2, .int .i64 6, .int .i64 10, .int .i64 14, .int .i64 3, .int .i64 7, .int .i64 11, .int .i64 15, .int .i64 0, .int .i64 5, .int .i64 10, .int .i64 15, .int .i64 1, .int .i64 6, .int .i64 11, .int .i64 12, .int .i64 2, .int .i64 7, .int .i64 8, .int .i64 13, .int .i64 3, .int .i64 4, .int .i64 9, .int .i64 14]
def quadZero : Array Value := #[.int .i64 0, .int .i64 0, .int .i64 0, .int .i64 0, .int .i64 0, .int .i64 0, .int .i64 0, .int .i64 0, .int .i64 0, .int .i64 0, .int .i64 0, .int .i64 0, .int .i64 0, .int .i64 0, .int .i64 0, .int .i64 0, .int .i64 0, .int .i64 0, .int .i64 0, .int .i64 0, .int .i64 0, .int .i64 0, .int .i64 0, .int .i64 0, .int .i64 0, .int .i64 0, .int .i64 0, .int .i64 0, .int .i64 0, .int .i64 0, .int .i64 0, .int .i64 0]
theorem quadRow_at (k : Nat) (hk : k < 8) : Value.agg (quadRow.extract (k * 4) (k * 4 + 4)) = quadV (quad k) := by
  match k, hk with
  | 0, _ => rfl
  | 1, _ => rfl
  | 2, _ => rfl
  | 3, _ => rfl
  | 4, _ => rfl
  | 5, _ => rfl
  | 6, _ => rfl
  | 7, _ => rfl
theorem permRow_at (r : Nat) (hr : r < 10) : permRow[r]? = some (.int .u64 (permAt r)) := by
  have h : r < blkPerms.length := hr
  simp [permRow, permAt, List.getD, List.getElem?_eq_getElem h]

/-- An element of an array by value. -/
theorem run_index_one {P : Program} {t e : TypeId} {n : Nat} {cs : Array Value} {v : Value} {d : TypeDesc} (h : P.underlying t = some (.array n e)) (he : P.underlying e = some d) (hd : (match d with | .struct _ | .array _ _ => true | _ => false) = false) (hz : (P.info? e).map (·.size) = some 1)
    (i : Nat) (hi : i < n) (hv : cs[i]? = some v) (W : World) : (Instr.index t (.agg cs) (.int .i64 (i : Int))).run P W = .ok v W := by
  cases hq : P.info? e with
  | none => simp [hq] at hz
  | some x =>
    have hs : x.size = 1 := by simpa [hq] using hz
    have hagg : (isAgg e).run P W = .ok false W := by
      unfold isAgg
      rw [Sem.run_bind, run_underlying he W]
      cases d <;> simp_all
    simp [Instr.index, run_underlying h, asIntOf, hi, go_sem, sizeOf, typeInfo, hq, hs, hagg, hv]
theorem run_index_agg {P : Program} {t e : TypeId} {n m : Nat} {cs : Array Value} {d : TypeDesc} (h : P.underlying t = some (.array n e)) (he : P.underlying e = some d) (hd : (match d with | .struct _ | .array _ _ => true | _ => false) = true) (hz : (P.info? e).map (·.size) = some m)
    (i : Nat) (hi : i < n) (W : World) : (Instr.index t (.agg cs) (.int .i64 (i : Int))).run P W = .ok (.agg (cs.extract (i * m) (i * m + m))) W := by
  cases hq : P.info? e with
  | none => simp [hq] at hz
  | some x =>
    have hs : x.size = m := by simpa [hq] using hz
    have hagg : (isAgg e).run P W = .ok true W := by
      unfold isAgg
      rw [Sem.run_bind, run_underlying he W]
      cases d <;> simp_all
    simp [Instr.index, run_underlying h, asIntOf, hi, go_sem, sizeOf, typeInfo, hq, hs, hagg]

set_option maxRecDepth 100000 in
theorem blk_permutations (w : World) : Calls Tryz.prog 119 #[] w fun e w' => e = .returned (.agg permRow) ∧ Below w.heap.size w w' := by
  go_enter Tryz.func119, Tryz.ntmps119
  go_wp2
  refine bodyPost_ret (results_cell_row rfl _ _ w.heap.size _ permRow (0, 0) _ rfl (heap_alloc_new w (.cells permRow 120)) Tryz.underlying120 rfl (by kernel_rfl)) rfl ⟨rfl, ?_⟩
  exact (Below.refl _ _).alloc (Nat.le_refl _) _

set_option maxRecDepth 100000 in
theorem blk_quads (w : World) : Calls Tryz.prog 120 #[] w fun e w' => e = .returned (.agg quadRow) ∧ Below w.heap.size w w' := by
  have hz := heap_alloc_new w (.cells quadZero 123)
  go_enter Tryz.func120, Tryz.ntmps120
  go_wp2_with (refine wpList_store_row rfl 123 _ _ rfl w.heap.size quadRow rfl rfl 123 quadZero hz (by kernel_rfl) rfl (by kernel_rfl) ?_)
  refine bodyPost_ret (results_cell_row rfl _ _ w.heap.size _ quadRow (0, 0) _ rfl (setRow_heap _ _ _ _ _ _ hz) Tryz.underlying123 rfl (by kernel_rfl)) rfl ⟨rfl, ?_⟩
  exact below_setRow ((Below.refl _ _).alloc (Nat.le_refl _) _) (Nat.le_refl _) _
end Go.Proofs.YtcbmdghnlbieeaaGreatDoor
namespace Go.Proofs.YtcbmdghnlbieeaaGreatDoor
open Go.RowKit

theorem list8 {α : Type} : ∀ {l : List α}, l.length = 8 → ∃ a b c d e f g h, l = [a, b, c, d, e, f, g, h]
  | [a, b, c, d, e, f, g, h], _ => ⟨a, b, c, d, e, f, g, h, rfl⟩

/-- A byte of a string, as the walk reads it. -/
theorem run_at {P : Program} {t : TypeId} (h : P.underlying t = some .string) (s : Bytes) (i : Int) (j : Nat) (hi : i = (j : Int)) (hj : j < s.length) (W : World) : (Instr.index t (S s) (.int .i64 i)).run P W = .ok (.int .u8 ((s.getD j 0).toNat : Nat)) W := by
  subst hi
  rw [S, run_index_string W t _ .i64 _ h]
  have hsz : (⟨s.toArray⟩ : ByteArray).size = s.length := by simp [ByteArray.size]
  rw [dif_pos ⟨by omega, by rw [hsz]; omega⟩]
  have e : (⟨s.toArray⟩ : ByteArray)[((j : Nat) : Int).toNat]'(by rw [hsz]; simpa using hj) = s.getD j 0 := by
    simp [List.getD, List.getElem?_eq_getElem hj, ByteArray.getElem_eq_getElem_data]
  rw [e]

/-- A word of four bytes. -/
def byteI (s : Bytes) (i : Nat) : Int := ((s[i]?.getD 0).toNat : Int) % 4294967296
def wordAt (s : Bytes) (k : Nat) : Int := bits .or .u32 (bits .or .u32 (bits .or .u32 (byteI s (4 * k)) (byteI s (4 * k + 1) * 256 % 4294967296)) (byteI s (4 * k + 2) * 65536 % 4294967296)) (byteI s (4 * k + 3) * 16777216 % 4294967296)
def wordsTo (s : Bytes) (k : Nat) : List Int := (List.range 16).map fun j => if j < k then wordAt s j else 0
def words (s : Bytes) : List Int := (List.range 16).map (wordAt s)
theorem wordsTo_zero (s : Bytes) : wordsTo s 0 = List.replicate 16 0 := rfl
theorem wordsTo_length (s : Bytes) (k : Nat) : (wordsTo s k).length = 16 := by simp [wordsTo]
theorem wordsTo_succ (s : Bytes) (k : Nat) (_hk : k < 16) : (wordsTo s k).set k (wordAt s k) = wordsTo s (k + 1) := by
  apply List.ext_getElem
  · simp [wordsTo]
  · intro j h1 h2
    simp only [wordsTo, List.getElem_set, List.getElem_map, List.getElem_range]
    by_cases h : k = j
    · subst h; simp
    · rw [if_neg h]
      by_cases hj : j < k
      · rw [if_pos hj, if_pos (by omega)]
      · rw [if_neg hj, if_neg (by omega)]
theorem wordsTo_all (s : Bytes) : wordsTo s 16 = words s := by
  apply List.map_congr_left
  intro j hj
  rw [if_pos (List.mem_range.1 hj)]

/-- The memory of Compress: the words taken in, the result, the message, the vector. -/
structure Cm (w : World) (hs m v : List Int) (wr : World) : Prop where
  below : Below w.heap.size w wr
  size : w.heap.size + 1 + 1 + 1 < wr.heap.size
  b0 : wr.heap[w.heap.size]? = some (.cells (row hs) 101 (0, 0))
  b1 : wr.heap[w.heap.size + 1]? = some (.cells (row (List.replicate 8 0)) 101 (0, 0))
  b2 : wr.heap[w.heap.size + 1 + 1]? = some (.cells (row m) 118 (0, 0))
  b3 : wr.heap[w.heap.size + 1 + 1 + 1]? = some (.cells (row v) 118 (0, 0))

section
variable {w wr w' : World} {hs m v : List Int}
theorem heap_at {X : World} {k : Nat} (hk : X.heap.size = k) (o : Obj) : (X.alloc o).heap[k]? = some o := by subst hk; exact heap_alloc_new _ _
theorem Cm.start (w : World) (hs : List Int) : Cm w hs (List.replicate 16 0) (List.replicate 16 0) ((((w.alloc (.cells (row hs) 101)).alloc (.cells (row (List.replicate 8 0)) 101)).alloc (.cells (row (List.replicate 16 0)) 118)).alloc (.cells (row (List.replicate 16 0)) 118)) := by
  refine ⟨((((Below.refl _ _).alloc (Nat.le_refl _) _).alloc (by simp) _).alloc (by simp; omega) _).alloc (by simp; omega) _, by simp, ?_, ?_, ?_, ?_⟩
  · exact (Below.heap_alloc _ _ _ (by simp; omega)).trans ((Below.heap_alloc _ _ _ (by simp; omega)).trans ((Below.heap_alloc _ _ _ (by simp)).trans (heap_alloc_new _ _)))
  · exact (Below.heap_alloc _ _ _ (by simp)).trans ((Below.heap_alloc _ _ _ (by simp)).trans (heap_at (by simp) _))
  · exact (Below.heap_alloc _ _ _ (by simp)).trans (heap_at (by simp) _)
  · exact heap_at (by simp) _
theorem Cm.pass (h : Cm w hs m v wr) (hb : Below wr.heap.size wr w') : Cm w hs m v w' := by
  have := h.size
  exact ⟨h.below.trans (hb.mono h.below.size), by have := hb.size; omega, (hb.block _ (by omega)).trans h.b0, (hb.block _ (by omega)).trans h.b1, (hb.block _ (by omega)).trans h.b2, (hb.block _ (by omega)).trans h.b3⟩
theorem Cm.drew (h : Cm w hs m v wr) : Cm w hs m v wr.drew := h.pass (Below.refl _ _).drew
theorem Cm.alloc (h : Cm w hs m v wr) (o : Obj) : Cm w hs m v (wr.alloc o) := h.pass ((Below.refl _ _).alloc (Nat.le_refl _) o)
theorem Cm.set0 (h : Cm w hs m v wr) (i : Nat) (x : Int) : Cm w (hs.set i x) m v (wr.setCell ⟨w.heap.size, i, none⟩ (.int .u32 x)) := by
  have o : ∀ k, k ≠ w.heap.size → (wr.setCell ⟨w.heap.size, i, none⟩ (.int .u32 x)).heap[k]? = wr.heap[k]? := fun k hk => Below.heap_setCell _ _ _ _ hk
  exact ⟨h.below.setCell (Nat.le_refl _) _, by simpa [World.setCell] using h.size, heap_setCell _ h.b0, (o _ (by omega)).trans h.b1, (o _ (by omega)).trans h.b2, (o _ (by omega)).trans h.b3⟩
theorem Cm.set2 (h : Cm w hs m v wr) (i : Nat) (x : Int) : Cm w hs (m.set i x) v (wr.setCell ⟨w.heap.size + 1 + 1, i, none⟩ (.int .u32 x)) := by
  have o : ∀ k, k ≠ w.heap.size + 1 + 1 → (wr.setCell ⟨w.heap.size + 1 + 1, i, none⟩ (.int .u32 x)).heap[k]? = wr.heap[k]? := fun k hk => Below.heap_setCell _ _ _ _ hk
  exact ⟨h.below.setCell (by show w.heap.size ≤ w.heap.size + 1 + 1; omega) _, by simpa [World.setCell] using h.size, (o _ (by omega)).trans h.b0, (o _ (by omega)).trans h.b1, heap_setCell _ h.b2, (o _ (by omega)).trans h.b3⟩
theorem Cm.set3 (h : Cm w hs m v wr) (i : Nat) (x : Int) : Cm w hs m (v.set i x) (wr.setCell ⟨w.heap.size + 1 + 1 + 1, i, none⟩ (.int .u32 x)) := by
  have o : ∀ k, k ≠ w.heap.size + 1 + 1 + 1 → (wr.setCell ⟨w.heap.size + 1 + 1 + 1, i, none⟩ (.int .u32 x)).heap[k]? = wr.heap[k]? := fun k hk => Below.heap_setCell _ _ _ _ hk
  exact ⟨h.below.setCell (by show w.heap.size ≤ w.heap.size + 1 + 1 + 1; omega) _, by simpa [World.setCell] using h.size, (o _ (by omega)).trans h.b0, (o _ (by omega)).trans h.b1, (o _ (by omega)).trans h.b2, heap_setCell _ h.b3⟩
theorem Cm.grown3 {v' : List Int} (h : Cm w hs m v wr) (hg : wr.grownBy w' (some (w.heap.size + 1 + 1 + 1))) (hv : w'.heap[w.heap.size + 1 + 1 + 1]? = some (.cells (row v') 118 (0, 0))) : Cm w hs m v' w' := by
  have := h.size
  have o : ∀ k, k < w.heap.size + 1 + 1 + 1 → w'.heap[k]? = wr.heap[k]? := fun k hk => hg.block k (by omega) (fun e => by injection e; omega)
  exact ⟨h.below.grown hg (by omega) (fun k hk => by injection hk; omega), by have := hg.size; omega, (o _ (by omega)).trans h.b0, (o _ (by omega)).trans h.b1, (o _ (by omega)).trans h.b2, hv⟩
theorem Cm.row3 {v' : List Int} (h : Cm w hs m v wr) : Cm w hs m v' (wr.setRow (w.heap.size + 1 + 1 + 1) (row v')) := by
  have o : ∀ k, k ≠ w.heap.size + 1 + 1 + 1 → (wr.setRow (w.heap.size + 1 + 1 + 1) (row v')).heap[k]? = wr.heap[k]? := fun k hk => setRow_other _ _ _ _ hk
  exact ⟨below_setRow h.below (by omega) _, by simpa using h.size, (o _ (by omega)).trans h.b0, (o _ (by omega)).trans h.b1, (o _ (by omega)).trans h.b2, setRow_heap _ _ _ _ _ _ h.b3⟩
end

def blkIV : List Int := [1779033703, 3144134277, 1013904242, 2773480762, 1359893119, 2600822924, 528734635, 1541459225]

set_option maxRecDepth 100000 in
theorem blk_initial (w : World) : Calls Tryz.prog 92 #[] w fun e w' => e = .returned (.agg (row blkIV)) ∧ Below w.heap.size w w' := by
  go_enter Tryz.func92, Tryz.ntmps92
  go_wp2
  refine bodyPost_ret (results_cell_row rfl _ _ w.heap.size _ (row blkIV) (0, 0) _ rfl (heap_alloc_new w (.cells (row blkIV) 101)) Tryz.underlying101 rfl (by kernel_rfl)) rfl ⟨rfl, ?_⟩
  exact (Below.refl _ _).alloc (Nat.le_refl _) _

/-- The vector ahead of the rounds. -/
def vInit (hs : List Int) (count : Int) (last : Bool) : List Int :=
  let v := ((hs ++ blkIV).set 12 (bits .xor .u32 1359893119 (count % 4294967296))).set 13 (bits .xor .u32 2600822924 (count / 4294967296 % 4294967296))
  if last then v.set 14 (bits .xor .u32 IntKind.u32.max 528734635) else v
/-- The words that come out, up to a place. -/
def finTo (hs v : List Int) (k : Nat) : List Int := (List.range 8).map fun j => if j < k then bits .xor .u32 (hs.getD j 0) (bits .xor .u32 (v.getD j 0) (v.getD (j + 8) 0)) else hs.getD j 0
theorem finTo_length (hs v : List Int) (k : Nat) : (finTo hs v k).length = 8 := by simp [finTo]
theorem finTo_at (hs v : List Int) (k : Nat) (hk : k < 8) : (finTo hs v k).getD k 0 = hs.getD k 0 := by
  simp [finTo, List.getD, hk]
theorem finTo_succ (hs v : List Int) (k : Nat) : (finTo hs v k).set k (bits .xor .u32 (hs.getD k 0) (bits .xor .u32 (v.getD k 0) (v.getD (k + 8) 0))) = finTo hs v (k + 1) := by
  apply List.ext_getElem
  · simp [finTo]
  · intro j h1 h2
    simp only [finTo, List.getElem_set, List.getElem_map, List.getElem_range]
    by_cases h : k = j
    · subst h; simp
    · rw [if_neg h]
      by_cases hj : j < k
      · rw [if_pos hj, if_pos (by omega)]
      · rw [if_neg hj, if_neg (by omega)]
/-- Compress. -/
def compressP (hs : List Int) (s : Bytes) (count : Int) (last : Bool) : List Int := finTo hs (roundsP (words s) 10 (vInit hs count last)) 8
theorem compressP_length (hs : List Int) (s : Bytes) (count : Int) (last : Bool) : (compressP hs s count last).length = 8 := finTo_length ..
theorem vInit_length (hs : List Int) (h : hs.length = 8) (count : Int) (last : Bool) : (vInit hs count last).length = 16 := by
  unfold vInit
  cases last <;> simp [h, blkIV]

set_option maxRecDepth 100000 in
set_option maxHeartbeats 6000000 in
theorem blk_Compress (hs : List Int) (hh : hs.length = 8) (s : Bytes) (hsl : s.length = 64) (count : Int) (last : Bool) (w : World) :
    Calls Tryz.prog 93 #[.agg (row hs), S s, .int .u64 count, .bool last] w fun e w' => e = .returned (.tuple #[.agg (row (compressP hs s count last)), .int .i64 0]) ∧ Below w.heap.size w w' := by
  obtain ⟨h0, h1, h2, h3, h4, h5, h6, h7, rfl⟩ := list8 hh
  rw [show row [h0, h1, h2, h3, h4, h5, h6, h7] = #[.int .u32 h0, .int .u32 h1, .int .u32 h2, .int .u32 h3, .int .u32 h4, .int .u32 h5, .int .u32 h6, .int .u32 h7] from rfl]
  have hsz : (s.length : Int) = 64 := by omega
  clear hh
  have Hst := Lib.hid (Cm.start w [h0, h1, h2, h3, h4, h5, h6, h7])
  go_enter Tryz.func93, Tryz.ntmps93
  go_wp2_with fail
  go_loopw [25] (fun s25 wr => ∃ (k : Nat), k ≤ 16 ∧ s25 = .int .i64 k ∧ Cm w [h0, h1, h2, h3, h4, h5, h6, h7] (wordsTo s k) (List.replicate 16 0) wr) (fun i _ => 16 - (intOf i).toNat)
  case atStart => exact ⟨0, Nat.zero_le _, rfl, Hst.out⟩
  case round =>
    clear Hst
    obtain ⟨k, hk, rfl, hm⟩ := hrel
    by_cases hlt : k < 16
    · have hcell := cell_of_row wr _ k _ _ _ hm.b2
      rw [row_at (by rw [wordsTo_length]; omega)] at hcell
      have hfr := frozen_of_row wr _ k _ _ hm.b2
      have Hm := Lib.hid hm; clear hm
      have hx0 := run_at Tryz.underlying9 s (4 * (k : Int)) (4 * k) (by omega) (by omega)
      have hx1 := run_at Tryz.underlying9 s (4 * (k : Int) + 1) (4 * k + 1) (by omega) (by omega)
      have hx2 := run_at Tryz.underlying9 s (4 * (k : Int) + 2) (4 * k + 2) (by omega) (by omega)
      have hx3 := run_at Tryz.underlying9 s (4 * (k : Int) + 3) (4 * k + 3) (by omega) (by omega)
      go_wp2_with fail
      go_big_region
      go_wp2
      go_roundw
      case rel => exact ⟨k + 1, by omega, by go_num, by rw [← wordsTo_succ s k hlt]; exact (Hm.out.set2 k (wordAt s k)).drew⟩
      case measure => simp [intOf]; omega
    · have hke : k = 16 := by omega
      subst hke
      rw [wordsTo_all] at hm
      go_wp2_with fail
      refine (blk_initial _).mono ?_
      rintro e w1 ⟨rfl, hb1⟩
      have hm1 := hm.pass hb1
      rw [show row blkIV = #[.int .u32 1779033703, .int .u32 3144134277, .int .u32 1013904242, .int .u32 2773480762, .int .u32 1359893119, .int .u32 2600822924, .int .u32 528734635, .int .u32 1541459225] from rfl]
      have Hm1 := Lib.hid (hm1.alloc (.cells (row blkIV) 101))
      have hn1 := hm1.size
      have Hi1 := Lib.hid (heap_alloc_new w1 (.cells (row blkIV) 101))
      clear hm1 hm hb1
      go_wp2_with fail
      have e0 : (w1.alloc (.cells #[.int .u32 1779033703, .int .u32 3144134277, .int .u32 1013904242, .int .u32 2773480762, .int .u32 1359893119, .int .u32 2600822924, .int .u32 528734635, .int .u32 1541459225] 101)) = w1.alloc (.cells (row blkIV) 101) := rfl
      rw [e0]
      obtain ⟨X, hX⟩ : ∃ X, w1.alloc (.cells (row blkIV) 101) = X := ⟨_, rfl⟩
      rw [hX]
      have HmX : Hid (Cm w [h0, h1, h2, h3, h4, h5, h6, h7] (words s) (List.replicate 16 0) X) := Lib.hid (by rw [← hX]; exact Hm1.out)
      have HiX : Hid (X.heap[w1.heap.size]? = some (.cells (row blkIV) 101 (0, 0))) := Lib.hid (by rw [← hX]; exact Hi1.out)
      have hnX : w1.heap.size < X.heap.size := by rw [← hX]; simp
      clear hX e0 Hm1 Hi1
      have hcp : ∀ ty, (Builtin.copy_ #[119, 119] ty #[.slice (some ⟨w.heap.size + 1 + 1 + 1, 0, none⟩) 8 16, .slice (some ⟨w.heap.size, 0, none⟩) 8 8]).run Tryz.prog X.drew = .ok (.int .i64 8) (X.drew.setRow (w.heap.size + 1 + 1 + 1) (row ([h0, h1, h2, h3, h4, h5, h6, h7] ++ List.replicate 8 0))) := by
        intro ty
        have hcs : ∀ j v, ([.int .u32 h0, .int .u32 h1, .int .u32 h2, .int .u32 h3, .int .u32 h4, .int .u32 h5, .int .u32 h6, .int .u32 h7] : List Value)[j]? = some v → X.drew.cell? ((⟨w.heap.size, 0, none⟩ : Addr).add j) = some v := by
          intro j v hj
          rw [Addr.add_lit, cell_of_row _ _ _ _ _ _ HmX.out.drew.b0, Nat.zero_add]
          simpa [row] using hj
        exact run_copy_k X.drew 119 119 ty 100 1 (w.heap.size + 1 + 1 + 1) 0 8 16 ⟨w.heap.size, 0, none⟩ 8 8 (row (List.replicate 16 0)) _ _ Tryz.underlying119 (by kernel_rfl) HmX.out.drew.b3 rfl hcs (by simp) (by simp [Value.oneCell'])
      go_region_law (refine step_copy_runI rfl _ _ 119 119 rfl _ _ (by simp [Act.eval, Act.put]) (by simp [Act.eval, Act.put]) (hcp _) ?_)
      go_wp2_with fail
      rw [show [h0, h1, h2, h3, h4, h5, h6, h7, 0, 0, 0, 0, 0, 0, 0, 0] = [h0, h1, h2, h3, h4, h5, h6, h7] ++ List.replicate 8 0 from rfl]
      obtain ⟨Y, hY⟩ : ∃ Y, X.drew.setRow (w.heap.size + 1 + 1 + 1) (row ([h0, h1, h2, h3, h4, h5, h6, h7] ++ List.replicate 8 0)) = Y := ⟨_, rfl⟩
      rw [hY]
      have HmY : Hid (Cm w [h0, h1, h2, h3, h4, h5, h6, h7] (words s) ([h0, h1, h2, h3, h4, h5, h6, h7] ++ List.replicate 8 0) Y) := Lib.hid (by rw [← hY]; exact HmX.out.drew.row3)
      have HiY : Hid (Y.heap[w1.heap.size]? = some (.cells (row blkIV) 101 (0, 0))) := Lib.hid (by rw [← hY, setRow_other _ _ _ _ (by omega)]; exact HiX.out)
      clear hY hcp HmX HiX hnX
      have hcp : ∀ ty, (Builtin.copy_ #[119, 119] ty #[.slice (some ⟨w.heap.size + 1 + 1 + 1, 8, none⟩) 8 8, .slice (some ⟨w1.heap.size, 0, none⟩) 8 8]).run Tryz.prog Y.drew = .ok (.int .i64 8) (Y.drew.setRow (w.heap.size + 1 + 1 + 1) (row ([h0, h1, h2, h3, h4, h5, h6, h7] ++ blkIV))) := by
        intro ty
        have hcs : ∀ j v, ((row blkIV).toList)[j]? = some v → Y.drew.cell? ((⟨w1.heap.size, 0, none⟩ : Addr).add j) = some v := by
          intro j v hj
          rw [Addr.add_lit, cell_of_row Y.drew w1.heap.size _ (row blkIV) _ _ HiY.out, Nat.zero_add]
          simpa using hj
        exact run_copy_k Y.drew 119 119 ty 100 1 (w.heap.size + 1 + 1 + 1) 8 8 8 ⟨w1.heap.size, 0, none⟩ 8 8 (row ([h0, h1, h2, h3, h4, h5, h6, h7] ++ List.replicate 8 0)) _ _ Tryz.underlying119 (by kernel_rfl) HmY.out.drew.b3 rfl hcs (by simp [blkIV]) (by simp [row, Value.oneCell'])
      go_region_law (refine step_copy_runI rfl _ _ 119 119 rfl _ _ (by simp [Act.eval, Act.put]) (by simp [Act.eval, Act.put]) (hcp _) ?_)
      go_upto_region 12 with fail
      rw [show (h0 :: h1 :: h2 :: h3 :: h4 :: h5 :: h6 :: h7 :: blkIV) = [h0, h1, h2, h3, h4, h5, h6, h7] ++ blkIV from rfl]
      obtain ⟨Z, hZ⟩ : ∃ Z, Y.drew.setRow (w.heap.size + 1 + 1 + 1) (row ([h0, h1, h2, h3, h4, h5, h6, h7] ++ blkIV)) = Z := ⟨_, rfl⟩
      rw [hZ]
      have hmZ : Cm w [h0, h1, h2, h3, h4, h5, h6, h7] (words s) ([h0, h1, h2, h3, h4, h5, h6, h7] ++ blkIV) Z := by rw [← hZ]; exact HmY.out.drew.row3
      clear hZ hcp HmY HiY
      have c12 : Z.cell? ⟨w.heap.size + 1 + 1 + 1, 12, none⟩ = some (.int .u32 1359893119) := (cell_of_row Z _ 12 _ _ _ hmZ.b3).trans rfl
      have c13 : Z.cell? ⟨w.heap.size + 1 + 1 + 1, 13, none⟩ = some (.int .u32 2600822924) := (cell_of_row Z _ 13 _ _ _ hmZ.b3).trans rfl
      have c14 : Z.cell? ⟨w.heap.size + 1 + 1 + 1, 14, none⟩ = some (.int .u32 528734635) := (cell_of_row Z _ 14 _ _ _ hmZ.b3).trans rfl
      have f12 := frozen_of_row Z _ 12 _ _ hmZ.b3
      have f13 := frozen_of_row Z _ 13 _ _ hmZ.b3
      have f14 := frozen_of_row Z _ 14 _ _ hmZ.b3
      have HmZ := Lib.hid hmZ; clear hmZ
      cases last with
      | true =>
        go_wp2_with fail
        refine (blk_permutations _).mono ?_
        rintro e w3 ⟨rfl, hb3⟩
        have hm3 : Cm w [h0, h1, h2, h3, h4, h5, h6, h7] (words s) (vInit [h0, h1, h2, h3, h4, h5, h6, h7] count true) w3 := Cm.pass (((HmZ.out.set3 12 _).set3 13 _).set3 14 _) hb3
        have Hm3 := Lib.hid hm3
        obtain ⟨v0, hv0⟩ : ∃ v0, vInit [h0, h1, h2, h3, h4, h5, h6, h7] count true = v0 := ⟨_, rfl⟩
        have Hv0 := Lib.hid hv0
        rw [hv0] at hm3
        clear hv0 Hm3
        have hlv : v0.length = 16 := by rw [← Hv0.out]; exact vInit_length _ rfl _ _
        clear c12 c13 c14 f12 f13 f14 HmZ hb3
        go_wp2_with fail
        go_loopw [86] (fun s86 wr => ∃ r : Nat, r ≤ 10 ∧ s86 = .int .i64 r ∧ Cm w [h0, h1, h2, h3, h4, h5, h6, h7] (words s) (roundsP (words s) r v0) wr) (fun i _ => 10 - (intOf i).toNat)
        case atStart => exact ⟨0, Nat.zero_le _, rfl, hm3⟩
        case round =>
          clear hm3
          obtain ⟨r, hr, rfl, hmr⟩ := hrel
          by_cases hltr : r < 10
          · have hpx := run_index_one (P := Tryz.prog) Tryz.underlying120 Tryz.underlying105 rfl (by kernel_rfl) r hltr (permRow_at r hltr)
            obtain ⟨vr, hvr⟩ : ∃ vr, roundsP (words s) r v0 = vr := ⟨_, rfl⟩
            have Hvr := Lib.hid hvr
            rw [hvr] at hmr
            clear hvr
            have hlr : vr.length = 16 := by rw [← Hvr.out, roundsP_length, hlv]
            go_wp2_with fail
            refine (blk_quads _).mono ?_
            rintro e w4 ⟨rfl, hb4⟩
            have hm4 := hmr.pass hb4
            clear hmr hb4
            go_wp2_with fail
            go_loopw [90] (fun s90 wr => ∃ k : Nat, k ≤ 8 ∧ s90 = .int .i64 k ∧ Cm w [h0, h1, h2, h3, h4, h5, h6, h7] (words s) (stepsP (words s) r k vr) wr) (fun i _ => 8 - (intOf i).toNat)
            case atStart => exact ⟨0, Nat.zero_le _, rfl, hm4⟩
            case round =>
              clear hm4
              obtain ⟨k, hk, rfl, hmk⟩ := hrel
              by_cases hltk : k < 8
              · have hqx : ∀ W, (Instr.index 123 (.agg quadRow) (.int .i64 (k : Int))).run Tryz.prog W = .ok (.agg #[.int .i64 (quad k).1, .int .i64 (quad k).2.1, .int .i64 (quad k).2.2.1, .int .i64 (quad k).2.2.2]) W := fun W => by
                  rw [run_index_agg (P := Tryz.prog) (m := 4) Tryz.underlying123 Tryz.underlying122 rfl (by kernel_rfl) k hltk, quadRow_at k hltk]; rfl
                have Hmk := Lib.hid hmk; clear hmk
                go_wp2_with fail
                obtain ⟨qa, qb, qc, qd, hq⟩ : ∃ qa qb qc qd, quad k = (qa, qb, qc, qd) := ⟨_, _, _, _, rfl⟩
                have hqo := quad_ok k hltk
                have Hst := Lib.hid (show stepP (words s) r k (stepsP (words s) r k vr) = mixP (stepsP (words s) r k vr) qa qb qc qd ((words s).getD (sigma r (2 * k)) 0) ((words s).getD (sigma r (2 * k + 1)) 0) by rw [stepP, hq])
                rw [hq] at hqo ⊢
                have Hqo := Lib.hid hqo
                clear hq hqo hpx hqx
                obtain ⟨hn1', hn2'⟩ := nibble_ok r k hltr hltk
                have hs1 := sigma_ok r (2 * k) hltr (by omega)
                have hs2 := sigma_ok r (2 * k + 1) hltr (by omega)
                generalize sigma r (2 * k) = sx at hn1' hs1 Hst
                generalize sigma r (2 * k + 1) = sy at hn2' hs2 Hst
                refine wp_region_quiet_below (by kernel_rfl) (by kernel_rfl) ?_
                repeat (go_big_quiet_step ((fail)))
                refine wpQuiet_nil ?_
                intro w5 hwq
                have hb5 : Below (wr.alloc (.cells #[.int .i64 qa, .int .i64 qb, .int .i64 qc, .int .i64 qd] 122)).heap.size (wr.alloc (.cells #[.int .i64 qa, .int .i64 qb, .int .i64 qc, .int .i64 qd] 122)) w5 := by
                  obtain ⟨pq, rfl⟩ := hwq
                  exact below_regrown _ _ _
                clear hwq
                have hm5 := (Hmk.out.alloc _).pass hb5
                have k0 : w5.cell? ⟨wr.heap.size, 0, none⟩ = some (.int .i64 qa) := by rw [hb5.cell (by simp)]; simp
                have k1 : w5.cell? ⟨wr.heap.size, 1, none⟩ = some (.int .i64 qb) := by rw [hb5.cell (by simp)]; simp
                have k2 : w5.cell? ⟨wr.heap.size, 2, none⟩ = some (.int .i64 qc) := by rw [hb5.cell (by simp)]; simp
                have k3 : w5.cell? ⟨wr.heap.size, 3, none⟩ = some (.int .i64 qd) := by rw [hb5.cell (by simp)]; simp
                have m0 : w5.cell? ⟨w.heap.size + 1 + 1, sx, none⟩ = some (.int .u32 ((words s).getD sx 0)) := (cell_of_row w5 _ sx _ _ _ hm5.b2).trans (row_at (by simpa [words] using hs1))
                have m1 : w5.cell? ⟨w.heap.size + 1 + 1, sy, none⟩ = some (.int .u32 ((words s).getD sy 0)) := (cell_of_row w5 _ sy _ _ _ hm5.b2).trans (row_at (by simpa [words] using hs2))
                generalize (words s).getD sx 0 = mx at m0 Hst
                generalize (words s).getD sy 0 = my at m1 Hst
                have Hm5 := Lib.hid hm5
                clear hm5 hb5 hn1' hn2' Hmk
                go_wp2_with fail
                have k0d : ({ heap := w5.heap, tape := w5.tape, drawn := w5.drawn + 1, os := w5.os, output := w5.output } : World).cell? ⟨wr.heap.size, 0, none⟩ = some (.int .i64 qa) := k0
                have k1d : ({ heap := w5.heap, tape := w5.tape, drawn := w5.drawn + 1, os := w5.os, output := w5.output } : World).cell? ⟨wr.heap.size, 1, none⟩ = some (.int .i64 qb) := k1
                have k2d : ({ heap := w5.heap, tape := w5.tape, drawn := w5.drawn + 1, os := w5.os, output := w5.output } : World).cell? ⟨wr.heap.size, 2, none⟩ = some (.int .i64 qc) := k2
                have k3d : ({ heap := w5.heap, tape := w5.tape, drawn := w5.drawn + 1, os := w5.os, output := w5.output } : World).cell? ⟨wr.heap.size, 3, none⟩ = some (.int .i64 qd) := k3
                have m0d : ({ heap := w5.heap, tape := w5.tape, drawn := w5.drawn + 1, os := w5.os, output := w5.output } : World).cell? ⟨w.heap.size + 1 + 1, sx, none⟩ = some (.int .u32 mx) := m0
                have m1d : ({ heap := w5.heap, tape := w5.tape, drawn := w5.drawn + 1, os := w5.os, output := w5.output } : World).cell? ⟨w.heap.size + 1 + 1, sy, none⟩ = some (.int .u32 my) := m1
                have hi1 : (sx : Int) < 16 := by omega
                have hi2 : (sy : Int) < 16 := by omega
                have hi3 : (0 : Int) ≤ sx := by omega
                have hi4 : (0 : Int) ≤ sy := by omega
                go_still_tail 7, (by kernel_rfl)
                change wpList _ _ _ _ _ w5.drew
                have Hm6 : Hid (Cm w [h0, h1, h2, h3, h4, h5, h6, h7] (words s) (stepsP (words s) r k vr) w5.drew) := Lib.hid Hm5.out.drew
                generalize w5.drew = w6 at Hm6
                go_wp2_with fail
                have hq1 := Hqo.out
                refine (blk_mix (w.heap.size + 1 + 1 + 1) (stepsP (words s) r k vr) 118 qa qb qc qd mx my w6 Hm6.out.b3 (by rw [stepsP_length, hlr]) hq1.1 hq1.2.1 hq1.2.2.1 hq1.2.2.2.1 hq1.2.2.2.2.1 hq1.2.2.2.2.2.1 hq1.2.2.2.2.2.2.1 hq1.2.2.2.2.2.2.2.1 hq1.2.2.2.2.2.2.2.2.1 hq1.2.2.2.2.2.2.2.2.2).mono ?_
                rintro e w7 ⟨rfl, hg7, hv7⟩
                have hm7 := Hm6.out.grown3 hg7 hv7
                go_wp2
                go_roundw
                case rel => exact ⟨k + 1, by omega, by go_num, by rw [stepsP, Hst.out]; exact hm7⟩
                case measure => simp [intOf]; omega
              · have hke : k = 8 := by omega
                subst hke
                go_wp2_with fail
                go_roundw
                case rel => exact ⟨r + 1, by omega, by go_num, by rw [roundsP, Hvr.out]; exact hmk⟩
                case measure => simp [intOf]; omega
          · have hre : r = 10 := by omega
            obtain ⟨v, hv⟩ : ∃ v, roundsP (words s) r v0 = v := ⟨_, rfl⟩
            have Hv := Lib.hid hv
            have hlv2 : v.length = 16 := by rw [← hv, roundsP_length, hlv]
            rw [hv] at hmr
            clear hv
            go_wp2_with fail
            go_loopw [116] (fun s116 wr => ∃ k : Nat, k ≤ 8 ∧ s116 = .int .i64 k ∧ Cm w (finTo [h0, h1, h2, h3, h4, h5, h6, h7] v k) (words s) v wr) (fun i _ => 8 - (intOf i).toNat)
            case atStart => exact ⟨0, Nat.zero_le _, rfl, hmr⟩
            case round =>
              clear hmr
              obtain ⟨k, hk, rfl, hmk⟩ := hrel
              by_cases hltk : k < 8
              · have hfl := finTo_length [h0, h1, h2, h3, h4, h5, h6, h7] v k
                have a0 := (cell_of_row wr _ k _ _ _ hmk.b0).trans (row_at (by rw [hfl]; exact hltk))
                have a1 := (cell_of_row wr _ k _ _ _ hmk.b3).trans (row_at (l := v) (by omega))
                have a2 := (cell_of_row wr _ (k + 8) _ _ _ hmk.b3).trans (row_at (l := v) (by omega))
                have a3 := frozen_of_row wr _ k _ _ hmk.b0
                rw [finTo_at _ _ _ hltk] at a0
                have hsc := finTo_succ [h0, h1, h2, h3, h4, h5, h6, h7] v k
                generalize List.getD [h0, h1, h2, h3, h4, h5, h6, h7] k 0 = x0 at a0 hsc
                generalize v.getD k 0 = x1 at a1 hsc
                generalize v.getD (k + 8) 0 = x2 at a2 hsc
                have Hsc := Lib.hid hsc
                have Hmk := Lib.hid hmk; clear hmk hfl hsc
                go_wp2_with fail
                go_big_region
                go_wp2
                go_roundw
                case rel => exact ⟨k + 1, by omega, by go_num, by rw [← Hsc.out]; exact (Hmk.out.set0 k _).drew⟩
                case measure => simp [intOf]; omega
              · have hfl := finTo_length [h0, h1, h2, h3, h4, h5, h6, h7] v k
                have hfin : finTo [h0, h1, h2, h3, h4, h5, h6, h7] v k = compressP [h0, h1, h2, h3, h4, h5, h6, h7] s count true := by
                  rw [compressP, Hv0.out, ← hre, Hv.out, show k = 8 by omega]
                generalize finTo [h0, h1, h2, h3, h4, h5, h6, h7] v k = F at hmk hfl hfin
                have Hfin := Lib.hid hfin
                have hi8 : (Tryz.prog.info? 101).map (·.size) = some (row F).size := by rw [row_size, hfl]; kernel_rfl
                have hz8 : (row (List.replicate 8 0)).size = (row F).size := by rw [row_size, row_size, hfl]; rfl
                have ho8 : (row F).all (·.oneCell') = true := by simp [row, Value.oneCell']
                have b0 := hmk.b0
                have b1 := hmk.b1
                have Hmk := Lib.hid hmk
                clear hmk hfin
                go_wp2_with (first
                  | (refine wpList_load_row rfl 101 _ rfl w.heap.size rfl 101 (row F) (0, 0) _ b0 Tryz.underlying101 rfl hi8 ?_)
                  | (refine wpList_store_row rfl 101 _ _ rfl (w.heap.size + 1) (row F) rfl rfl 101 (row (List.replicate 8 0)) b1 hi8 hz8 ho8 ?_))
                try simp only [Exit.inBlock, Exit.then]
                refine bodyPost_ret (v := .tuple #[.agg (row F), .int .i64 0]) ?_ rfl ⟨?_, ?_⟩
                · rw [results_cell_tmp rfl]
                  simp [asAddr, run_loadVar_row _ (w.heap.size + 1) 101 101 (row F) (0, 0) _ (setRow_heap _ _ _ _ _ _ b1) Tryz.underlying101 rfl hi8]
                · rw [Hfin.out]
                · exact below_setRow Hmk.out.below (by omega) _
      | false =>
        go_wp2_with fail
        refine (blk_permutations _).mono ?_
        rintro e w3 ⟨rfl, hb3⟩
        have hm3 : Cm w [h0, h1, h2, h3, h4, h5, h6, h7] (words s) (vInit [h0, h1, h2, h3, h4, h5, h6, h7] count false) w3 := Cm.pass ((HmZ.out.set3 12 _).set3 13 _) hb3
        have Hm3 := Lib.hid hm3
        obtain ⟨v0, hv0⟩ : ∃ v0, vInit [h0, h1, h2, h3, h4, h5, h6, h7] count false = v0 := ⟨_, rfl⟩
        have Hv0 := Lib.hid hv0
        rw [hv0] at hm3
        clear hv0 Hm3
        have hlv : v0.length = 16 := by rw [← Hv0.out]; exact vInit_length _ rfl _ _
        clear c12 c13 c14 f12 f13 f14 HmZ hb3
        go_wp2_with fail
        go_loopw [86] (fun s86 wr => ∃ r : Nat, r ≤ 10 ∧ s86 = .int .i64 r ∧ Cm w [h0, h1, h2, h3, h4, h5, h6, h7] (words s) (roundsP (words s) r v0) wr) (fun i _ => 10 - (intOf i).toNat)
        case atStart => exact ⟨0, Nat.zero_le _, rfl, hm3⟩
        case round =>
          clear hm3
          obtain ⟨r, hr, rfl, hmr⟩ := hrel
          by_cases hltr : r < 10
          · have hpx := run_index_one (P := Tryz.prog) Tryz.underlying120 Tryz.underlying105 rfl (by kernel_rfl) r hltr (permRow_at r hltr)
            obtain ⟨vr, hvr⟩ : ∃ vr, roundsP (words s) r v0 = vr := ⟨_, rfl⟩
            have Hvr := Lib.hid hvr
            rw [hvr] at hmr
            clear hvr
            have hlr : vr.length = 16 := by rw [← Hvr.out, roundsP_length, hlv]
            go_wp2_with fail
            refine (blk_quads _).mono ?_
            rintro e w4 ⟨rfl, hb4⟩
            have hm4 := hmr.pass hb4
            clear hmr hb4
            go_wp2_with fail
            go_loopw [90] (fun s90 wr => ∃ k : Nat, k ≤ 8 ∧ s90 = .int .i64 k ∧ Cm w [h0, h1, h2, h3, h4, h5, h6, h7] (words s) (stepsP (words s) r k vr) wr) (fun i _ => 8 - (intOf i).toNat)
            case atStart => exact ⟨0, Nat.zero_le _, rfl, hm4⟩
            case round =>
              clear hm4
              obtain ⟨k, hk, rfl, hmk⟩ := hrel
              by_cases hltk : k < 8
              · have hqx : ∀ W, (Instr.index 123 (.agg quadRow) (.int .i64 (k : Int))).run Tryz.prog W = .ok (.agg #[.int .i64 (quad k).1, .int .i64 (quad k).2.1, .int .i64 (quad k).2.2.1, .int .i64 (quad k).2.2.2]) W := fun W => by
                  rw [run_index_agg (P := Tryz.prog) (m := 4) Tryz.underlying123 Tryz.underlying122 rfl (by kernel_rfl) k hltk, quadRow_at k hltk]; rfl
                have Hmk := Lib.hid hmk; clear hmk
                go_wp2_with fail
                obtain ⟨qa, qb, qc, qd, hq⟩ : ∃ qa qb qc qd, quad k = (qa, qb, qc, qd) := ⟨_, _, _, _, rfl⟩
                have hqo := quad_ok k hltk
                have Hst := Lib.hid (show stepP (words s) r k (stepsP (words s) r k vr) = mixP (stepsP (words s) r k vr) qa qb qc qd ((words s).getD (sigma r (2 * k)) 0) ((words s).getD (sigma r (2 * k + 1)) 0) by rw [stepP, hq])
                rw [hq] at hqo ⊢
                have Hqo := Lib.hid hqo
                clear hq hqo hpx hqx
                obtain ⟨hn1', hn2'⟩ := nibble_ok r k hltr hltk
                have hs1 := sigma_ok r (2 * k) hltr (by omega)
                have hs2 := sigma_ok r (2 * k + 1) hltr (by omega)
                generalize sigma r (2 * k) = sx at hn1' hs1 Hst
                generalize sigma r (2 * k + 1) = sy at hn2' hs2 Hst
                refine wp_region_quiet_below (by kernel_rfl) (by kernel_rfl) ?_
                repeat (go_big_quiet_step ((fail)))
                refine wpQuiet_nil ?_
                intro w5 hwq
                have hb5 : Below (wr.alloc (.cells #[.int .i64 qa, .int .i64 qb, .int .i64 qc, .int .i64 qd] 122)).heap.size (wr.alloc (.cells #[.int .i64 qa, .int .i64 qb, .int .i64 qc, .int .i64 qd] 122)) w5 := by
                  obtain ⟨pq, rfl⟩ := hwq
                  exact below_regrown _ _ _
                clear hwq
                have hm5 := (Hmk.out.alloc _).pass hb5
                have k0 : w5.cell? ⟨wr.heap.size, 0, none⟩ = some (.int .i64 qa) := by rw [hb5.cell (by simp)]; simp
                have k1 : w5.cell? ⟨wr.heap.size, 1, none⟩ = some (.int .i64 qb) := by rw [hb5.cell (by simp)]; simp
                have k2 : w5.cell? ⟨wr.heap.size, 2, none⟩ = some (.int .i64 qc) := by rw [hb5.cell (by simp)]; simp
                have k3 : w5.cell? ⟨wr.heap.size, 3, none⟩ = some (.int .i64 qd) := by rw [hb5.cell (by simp)]; simp
                have m0 : w5.cell? ⟨w.heap.size + 1 + 1, sx, none⟩ = some (.int .u32 ((words s).getD sx 0)) := (cell_of_row w5 _ sx _ _ _ hm5.b2).trans (row_at (by simpa [words] using hs1))
                have m1 : w5.cell? ⟨w.heap.size + 1 + 1, sy, none⟩ = some (.int .u32 ((words s).getD sy 0)) := (cell_of_row w5 _ sy _ _ _ hm5.b2).trans (row_at (by simpa [words] using hs2))
                generalize (words s).getD sx 0 = mx at m0 Hst
                generalize (words s).getD sy 0 = my at m1 Hst
                have Hm5 := Lib.hid hm5
                clear hm5 hb5 hn1' hn2' Hmk
                go_wp2_with fail
                have k0d : ({ heap := w5.heap, tape := w5.tape, drawn := w5.drawn + 1, os := w5.os, output := w5.output } : World).cell? ⟨wr.heap.size, 0, none⟩ = some (.int .i64 qa) := k0
                have k1d : ({ heap := w5.heap, tape := w5.tape, drawn := w5.drawn + 1, os := w5.os, output := w5.output } : World).cell? ⟨wr.heap.size, 1, none⟩ = some (.int .i64 qb) := k1
                have k2d : ({ heap := w5.heap, tape := w5.tape, drawn := w5.drawn + 1, os := w5.os, output := w5.output } : World).cell? ⟨wr.heap.size, 2, none⟩ = some (.int .i64 qc) := k2
                have k3d : ({ heap := w5.heap, tape := w5.tape, drawn := w5.drawn + 1, os := w5.os, output := w5.output } : World).cell? ⟨wr.heap.size, 3, none⟩ = some (.int .i64 qd) := k3
                have m0d : ({ heap := w5.heap, tape := w5.tape, drawn := w5.drawn + 1, os := w5.os, output := w5.output } : World).cell? ⟨w.heap.size + 1 + 1, sx, none⟩ = some (.int .u32 mx) := m0
                have m1d : ({ heap := w5.heap, tape := w5.tape, drawn := w5.drawn + 1, os := w5.os, output := w5.output } : World).cell? ⟨w.heap.size + 1 + 1, sy, none⟩ = some (.int .u32 my) := m1
                have hi1 : (sx : Int) < 16 := by omega
                have hi2 : (sy : Int) < 16 := by omega
                have hi3 : (0 : Int) ≤ sx := by omega
                have hi4 : (0 : Int) ≤ sy := by omega
                go_still_tail 7, (by kernel_rfl)
                change wpList _ _ _ _ _ w5.drew
                have Hm6 : Hid (Cm w [h0, h1, h2, h3, h4, h5, h6, h7] (words s) (stepsP (words s) r k vr) w5.drew) := Lib.hid Hm5.out.drew
                generalize w5.drew = w6 at Hm6
                go_wp2_with fail
                have hq1 := Hqo.out
                refine (blk_mix (w.heap.size + 1 + 1 + 1) (stepsP (words s) r k vr) 118 qa qb qc qd mx my w6 Hm6.out.b3 (by rw [stepsP_length, hlr]) hq1.1 hq1.2.1 hq1.2.2.1 hq1.2.2.2.1 hq1.2.2.2.2.1 hq1.2.2.2.2.2.1 hq1.2.2.2.2.2.2.1 hq1.2.2.2.2.2.2.2.1 hq1.2.2.2.2.2.2.2.2.1 hq1.2.2.2.2.2.2.2.2.2).mono ?_
                rintro e w7 ⟨rfl, hg7, hv7⟩
                have hm7 := Hm6.out.grown3 hg7 hv7
                go_wp2
                go_roundw
                case rel => exact ⟨k + 1, by omega, by go_num, by rw [stepsP, Hst.out]; exact hm7⟩
                case measure => simp [intOf]; omega
              · have hke : k = 8 := by omega
                subst hke
                go_wp2_with fail
                go_roundw
                case rel => exact ⟨r + 1, by omega, by go_num, by rw [roundsP, Hvr.out]; exact hmk⟩
                case measure => simp [intOf]; omega
          · have hre : r = 10 := by omega
            obtain ⟨v, hv⟩ : ∃ v, roundsP (words s) r v0 = v := ⟨_, rfl⟩
            have Hv := Lib.hid hv
            have hlv2 : v.length = 16 := by rw [← hv, roundsP_length, hlv]
            rw [hv] at hmr
            clear hv
            go_wp2_with fail
            go_loopw [116] (fun s116 wr => ∃ k : Nat, k ≤ 8 ∧ s116 = .int .i64 k ∧ Cm w (finTo [h0, h1, h2, h3, h4, h5, h6, h7] v k) (words s) v wr) (fun i _ => 8 - (intOf i).toNat)
            case atStart => exact ⟨0, Nat.zero_le _, rfl, hmr⟩
            case round =>
              clear hmr
              obtain ⟨k, hk, rfl, hmk⟩ := hrel
              by_cases hltk : k < 8
              · have hfl := finTo_length [h0, h1, h2, h3, h4, h5, h6, h7] v k
                have a0 := (cell_of_row wr _ k _ _ _ hmk.b0).trans (row_at (by rw [hfl]; exact hltk))
                have a1 := (cell_of_row wr _ k _ _ _ hmk.b3).trans (row_at (l := v) (by omega))
                have a2 := (cell_of_row wr _ (k + 8) _ _ _ hmk.b3).trans (row_at (l := v) (by omega))
                have a3 := frozen_of_row wr _ k _ _ hmk.b0
                rw [finTo_at _ _ _ hltk] at a0
                have hsc := finTo_succ [h0, h1, h2, h3, h4, h5, h6, h7] v k
                generalize List.getD [h0, h1, h2, h3, h4, h5, h6, h7] k 0 = x0 at a0 hsc
                generalize v.getD k 0 = x1 at a1 hsc
                generalize v.getD (k + 8) 0 = x2 at a2 hsc
                have Hsc := Lib.hid hsc
                have Hmk := Lib.hid hmk; clear hmk hfl hsc
                go_wp2_with fail
                go_big_region
                go_wp2
                go_roundw
                case rel => exact ⟨k + 1, by omega, by go_num, by rw [← Hsc.out]; exact (Hmk.out.set0 k _).drew⟩
                case measure => simp [intOf]; omega
              · have hfl := finTo_length [h0, h1, h2, h3, h4, h5, h6, h7] v k
                have hfin : finTo [h0, h1, h2, h3, h4, h5, h6, h7] v k = compressP [h0, h1, h2, h3, h4, h5, h6, h7] s count false := by
                  rw [compressP, Hv0.out, ← hre, Hv.out, show k = 8 by omega]
                generalize finTo [h0, h1, h2, h3, h4, h5, h6, h7] v k = F at hmk hfl hfin
                have Hfin := Lib.hid hfin
                have hi8 : (Tryz.prog.info? 101).map (·.size) = some (row F).size := by rw [row_size, hfl]; kernel_rfl
                have hz8 : (row (List.replicate 8 0)).size = (row F).size := by rw [row_size, row_size, hfl]; rfl
                have ho8 : (row F).all (·.oneCell') = true := by simp [row, Value.oneCell']
                have b0 := hmk.b0
                have b1 := hmk.b1
                have Hmk := Lib.hid hmk
                clear hmk hfin
                go_wp2_with (first
                  | (refine wpList_load_row rfl 101 _ rfl w.heap.size rfl 101 (row F) (0, 0) _ b0 Tryz.underlying101 rfl hi8 ?_)
                  | (refine wpList_store_row rfl 101 _ _ rfl (w.heap.size + 1) (row F) rfl rfl 101 (row (List.replicate 8 0)) b1 hi8 hz8 ho8 ?_))
                try simp only [Exit.inBlock, Exit.then]
                refine bodyPost_ret (v := .tuple #[.agg (row F), .int .i64 0]) ?_ rfl ⟨?_, ?_⟩
                · rw [results_cell_tmp rfl]
                  simp [asAddr, run_loadVar_row _ (w.heap.size + 1) 101 101 (row F) (0, 0) _ (setRow_heap _ _ _ _ _ _ b1) Tryz.underlying101 rfl hi8]
                · rw [Hfin.out]
                · exact below_setRow Hmk.out.below (by omega) _
end Go.Proofs.YtcbmdghnlbieeaaGreatDoor
