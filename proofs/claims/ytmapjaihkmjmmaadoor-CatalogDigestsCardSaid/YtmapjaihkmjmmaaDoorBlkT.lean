/-
  Walks of the reference's layer 4: the tables, and the plain steps of its Compress.
-/
import Derived.Test.YtmapjaihkmjmmaaDoorBlkR
namespace Go.Proofs.YtmapjaihkmjmmaaDoor
open Go.RowKit

theorem xor_assoc32 (a b c : Int) : bits .xor .u32 (bits .xor .u32 a b) c = bits .xor .u32 a (bits .xor .u32 b c) := by
  have hr : ∀ x : BitVec 32, BitVec.ofInt 32 (x.toNat : Int) = x := fun x => by
    apply BitVec.eq_of_toNat_eq
    simp
  have hb : ∀ x y : Int, bits .xor .u32 x y = ((BitVec.ofInt 32 x ^^^ BitVec.ofInt 32 y).toNat : Int) := fun x y => by
    have := (BitVec.ofInt 32 x ^^^ BitVec.ofInt 32 y).isLt
    simp only [bits, IntKind.wrap, IntKind.bits, IntKind.signed]
    exact Int.emod_eq_of_lt (by omega) (by omega)
  rw [hb, hb a b, hb a, hb b c, hr, hr, BitVec.xor_assoc]
theorem or_zero32 (a : Int) (h0 : 0 ≤ a) (h1 : a < 4294967296) : bits .or .u32 0 a = a := by
  have hb : bits .or .u32 0 a = ((BitVec.ofInt 32 0 ||| BitVec.ofInt 32 a).toNat : Int) := by
    have := (BitVec.ofInt 32 0 ||| BitVec.ofInt 32 a).isLt
    simp only [bits, IntKind.wrap, IntKind.bits, IntKind.signed]
    exact Int.emod_eq_of_lt (by omega) (by omega)
  rw [hb]
  simp
  omega

/-- The words taken in byte by byte. -/
def pW (s : Bytes) (j : Nat) : Nat → Int
  | 0 => 0
  | 1 => byteI s (4 * j)
  | 2 => bits .or .u32 (byteI s (4 * j)) (byteI s (4 * j + 1) * 256 % 4294967296)
  | 3 => bits .or .u32 (bits .or .u32 (byteI s (4 * j)) (byteI s (4 * j + 1) * 256 % 4294967296)) (byteI s (4 * j + 2) * 65536 % 4294967296)
  | _ => wordAt s j
def refW (s : Bytes) (k : Nat) : List Int := (List.range 16).map fun j => pW s j (k - 4 * j)
theorem refW_length (s : Bytes) (k : Nat) : (refW s k).length = 16 := by simp [refW]
theorem refW_zero (s : Bytes) : refW s 0 = List.replicate 16 0 := by
  simp [refW, pW, List.map_const']
theorem pW_four (s : Bytes) (j n : Nat) (h : 4 ≤ n) : pW s j n = wordAt s j := by
  match n, h with
  | n + 4, _ => rfl
theorem refW_all (s : Bytes) : refW s 64 = words s := by
  apply List.map_congr_left
  intro j hj
  have := List.mem_range.1 hj
  exact pW_four s j _ (by omega)
theorem refW_at (s : Bytes) (q r : Nat) (hq : q < 16) (_hr : r < 4) : (refW s (4 * q + r)).getD q 0 = pW s q r := by
  simp [refW, List.getD, hq]
theorem refW_succ (s : Bytes) (q r : Nat) (_hq : q < 16) (hr : r < 4) : (refW s (4 * q + r)).set q (pW s q (r + 1)) = refW s (4 * q + r + 1) := by
  apply List.ext_getElem
  · simp [refW]
  · intro j h1 h2
    simp only [refW, List.getElem_set, List.getElem_map, List.getElem_range]
    by_cases h : q = j
    · subst h
      rw [if_pos rfl, show 4 * q + r + 1 - 4 * q = r + 1 by omega]
    · rw [if_neg h]
      rcases Nat.lt_or_ge j q with hj | hj
      · rw [pW_four s j _ (by omega), pW_four s j _ (by omega)]
      · rw [show 4 * q + r - 4 * j = 0 by omega, show 4 * q + r + 1 - 4 * j = 0 by omega]
theorem byteI_range (s : Bytes) (i : Nat) : 0 ≤ byteI s i ∧ byteI s i < 4294967296 := by unfold byteI; omega

theorem byteI_get (s : Bytes) (k : Nat) (h : k < s.length) : (s[k].toNat : Int) % 4294967296 = byteI s k := by simp [byteI, h]
theorem pW_0 (s : Bytes) (q k : Nat) (hk : k = 4 * q + 0) (h : k < s.length) : bits .or .u32 (pW s q 0) ((s[k].toNat : Int) % 4294967296) = pW s q 1 := by
  rw [byteI_get s k h, hk]
  exact or_zero32 _ (byteI_range _ _).1 (byteI_range _ _).2
theorem pW_1 (s : Bytes) (q k : Nat) (hk : k = 4 * q + 1) (h : k < s.length) : bits .or .u32 (pW s q 1) ((s[k].toNat : Int) % 4294967296 * 256 % 4294967296) = pW s q 2 := by
  rw [byteI_get s k h, hk]; rfl
theorem pW_2 (s : Bytes) (q k : Nat) (hk : k = 4 * q + 2) (h : k < s.length) : bits .or .u32 (pW s q 2) ((s[k].toNat : Int) % 4294967296 * 65536 % 4294967296) = pW s q 3 := by
  rw [byteI_get s k h, hk]; rfl
theorem pW_3 (s : Bytes) (q k : Nat) (hk : k = 4 * q + 3) (h : k < s.length) : bits .or .u32 (pW s q 3) ((s[k].toNat : Int) % 4294967296 * 16777216 % 4294967296) = pW s q 4 := by
  rw [byteI_get s k h, hk]; rfl

/-- The vector filled from two rows. -/
def vFill (hs : List Int) (k : Nat) : List Int := (List.range 16).map fun j => if j < 8 then (if j < k then hs.getD j 0 else 0) else (if j - 8 < k then blkIV.getD (j - 8) 0 else 0)
theorem vFill_length (hs : List Int) (k : Nat) : (vFill hs k).length = 16 := by simp [vFill]
theorem vFill_zero (hs : List Int) : vFill hs 0 = List.replicate 16 0 := by simp [vFill, List.map_const']
theorem vFill_succ (hs : List Int) (k : Nat) (hk : k < 8) : ((vFill hs k).set k (hs.getD k 0)).set (k + 8) (blkIV.getD k 0) = vFill hs (k + 1) := by
  apply List.ext_getElem
  · simp [vFill]
  · intro j h1 h2
    simp only [vFill, List.getElem_set, List.getElem_map, List.getElem_range]
    by_cases h : k + 8 = j
    · subst h
      rw [if_pos rfl, if_neg (by omega), if_pos (by omega), show k + 8 - 8 = k by omega]
    · rw [if_neg h]
      by_cases h' : k = j
      · subst h'
        rw [if_pos rfl, if_pos hk, if_pos (by omega)]
      · rw [if_neg h']
        by_cases hj : j < 8
        · rw [if_pos hj, if_pos hj]
          by_cases hjk : j < k
          · rw [if_pos hjk, if_pos (by omega)]
          · rw [if_neg hjk, if_neg (by omega)]
        · rw [if_neg hj, if_neg hj]
          by_cases hjk : j - 8 < k
          · rw [if_pos hjk, if_pos (by omega)]
          · rw [if_neg hjk, if_neg (by omega)]
theorem vFill_all (hs : List Int) (h : hs.length = 8) : vFill hs 8 = hs ++ blkIV := by
  obtain ⟨a, b, c, d, e, f, g, i, rfl⟩ := list8 h
  rfl

/-- The reference's permutations. -/
def refPerms : List Bytes := [[48, 49, 50, 51, 52, 53, 54, 55, 56, 57, 97, 98, 99, 100, 101, 102], [101, 97, 52, 56, 57, 102, 100, 54, 49, 99, 48, 50, 98, 55, 53, 51], [98, 56, 99, 48, 53, 50, 102, 100, 97, 101, 51, 54, 55, 49, 57, 52], [55, 57, 51, 49, 100, 99, 98, 101, 50, 54, 53, 97, 52, 48, 102, 56], [57, 48, 53, 55, 50, 52, 97, 102, 101, 49, 98, 99, 54, 56, 51, 100], [50, 99, 54, 97, 48, 98, 56, 51, 52, 100, 55, 53, 102, 101, 49, 57], [99, 53, 49, 102, 101, 100, 52, 97, 48, 55, 54, 51, 57, 50, 56, 98], [100, 98, 55, 101, 99, 49, 51, 57, 53, 48, 102, 52, 56, 54, 50, 97], [54, 102, 101, 57, 98, 51, 48, 56, 99, 50, 100, 55, 49, 52, 97, 53], [97, 50, 56, 52, 55, 54, 49, 53, 102, 98, 57, 101, 51, 99, 100, 48]]
def refPerm (r : Nat) : Bytes := refPerms.getD r []
def digitP (c : Nat) : Nat := if 97 ≤ c then c - 87 else c - 48
theorem refPerm_length (r : Nat) (h : r < 10) : (refPerm r).length = 16 := by revert r; decide
theorem digitP_at (r i : Nat) (hr : r < 10) (hi : i < 16) : digitP ((refPerm r).getD i 0).toNat = sigma r i ∧ 48 ≤ ((refPerm r).getD i 0).toNat ∧ ((refPerm r).getD i 0).toNat ≤ 102 := by
  revert i; revert r; decide

set_option maxRecDepth 100000 in
theorem ref04_permutation (r : Nat) (hr : r < 10) (w : World) : Calls Tryd.prog 72 #[.int .i64 r] w fun e w' => e = .returned (S (refPerm r)) ∧ Below w.heap.size w w' := by
  match r, hr with
  | 0, _ => go_enter Tryd.func72, Tryd.ntmps72; go_wp2; go_ret; exact ⟨rfl, Below.refl _ _⟩
  | 1, _ => go_enter Tryd.func72, Tryd.ntmps72; go_wp2; go_ret; exact ⟨rfl, Below.refl _ _⟩
  | 2, _ => go_enter Tryd.func72, Tryd.ntmps72; go_wp2; go_ret; exact ⟨rfl, Below.refl _ _⟩
  | 3, _ => go_enter Tryd.func72, Tryd.ntmps72; go_wp2; go_ret; exact ⟨rfl, Below.refl _ _⟩
  | 4, _ => go_enter Tryd.func72, Tryd.ntmps72; go_wp2; go_ret; exact ⟨rfl, Below.refl _ _⟩
  | 5, _ => go_enter Tryd.func72, Tryd.ntmps72; go_wp2; go_ret; exact ⟨rfl, Below.refl _ _⟩
  | 6, _ => go_enter Tryd.func72, Tryd.ntmps72; go_wp2; go_ret; exact ⟨rfl, Below.refl _ _⟩
  | 7, _ => go_enter Tryd.func72, Tryd.ntmps72; go_wp2; go_ret; exact ⟨rfl, Below.refl _ _⟩
  | 8, _ => go_enter Tryd.func72, Tryd.ntmps72; go_wp2; go_ret; exact ⟨rfl, Below.refl _ _⟩
  | 9, _ => go_enter Tryd.func72, Tryd.ntmps72; go_wp2; go_ret; exact ⟨rfl, Below.refl _ _⟩

set_option maxRecDepth 100000 in
theorem ref04_digit (c : Nat) (h0 : 48 ≤ c) (h1 : c ≤ 102) (w : World) : Calls Tryd.prog 75 #[.int .u8 c] w fun e w' => e = .returned (.int .i64 (digitP c : Nat)) ∧ Below w.heap.size w w' := by
  have hw1 : IntKind.i64.wrap (c : Int) = c := IntWalk.i64_in _ (by omega)
  by_cases h : 97 ≤ c
  · have hd : decide (97 ≤ (c : Int)) = true := by simp; omega
    have Hp := Lib.hid (show (digitP c : Int) = (c : Int) - 87 by rw [digitP, if_pos h]; omega)
    go_enter Tryd.func75, Tryd.ntmps75
    go_wp2
    go_ret
    exact ⟨ret_i Hp.out.symm, Below.refl _ _⟩
  · have hd : decide (97 ≤ (c : Int)) = false := by simp; omega
    have Hp := Lib.hid (show (digitP c : Int) = (c : Int) - 48 by rw [digitP, if_neg h]; omega)
    go_enter Tryd.func75, Tryd.ntmps75
    go_wp2
    go_ret
    exact ⟨ret_i Hp.out.symm, Below.refl _ _⟩

set_option maxRecDepth 100000 in
theorem ref04_Initial (w : World) : Calls Tryd.prog 59 #[] w fun e w' => e = .returned (.agg (row blkIV)) ∧ Below w.heap.size w w' := by
  go_enter Tryd.func59, Tryd.ntmps59
  go_wp2
  refine bodyPost_ret (results_cell_row rfl _ _ w.heap.size _ (row blkIV) (0, 0) _ rfl (heap_alloc_new w (.cells (row blkIV) 71)) Tryd.underlying71 rfl (by kernel_rfl)) rfl ⟨rfl, ?_⟩
  exact (Below.refl _ _).alloc (Nat.le_refl _) _

def quadZ : Array Value := #[.int .i64 0, .int .i64 0, .int .i64 0, .int .i64 0]
theorem quad_small (k : Nat) (h : k < 4) : quad k = (k, k + 4, k + 8, k + 12) := by revert k; decide
theorem quad_great (k : Nat) (h : k < 4) : quad (k + 4) = (k, 4 + (k + 1) % 4, 8 + (k + 2) % 4, 12 + (k + 3) % 4) := by revert k; decide

set_option maxRecDepth 100000 in
set_option maxHeartbeats 400000 in
theorem ref04_columns (k : Nat) (hk : k < 8) (w : World) : Calls Tryd.prog 73 #[.int .i64 k] w fun e w' => e = .returned (quadV (quad k)) ∧ Below w.heap.size w w' := by
  by_cases h : k < 4
  · have Hq := Lib.hid (quad_small k h)
    have hz := heap_alloc_new w (.cells quadZ 89)
    have hi4 : (Tryd.prog.info? 89).map (·.size) = some (#[.int .i64 k, .int .i64 ((k : Int) + 4), .int .i64 ((k : Int) + 8), .int .i64 ((k : Int) + 12)] : Array Value).size := by kernel_rfl
    have ho4 : (#[.int .i64 k, .int .i64 ((k : Int) + 4), .int .i64 ((k : Int) + 8), .int .i64 ((k : Int) + 12)] : Array Value).all (·.oneCell') = true := by simp [Value.oneCell']
    go_enter Tryd.func73, Tryd.ntmps73
    go_wp2_with (refine wpList_store_row rfl 89 _ _ rfl w.heap.size #[.int .i64 k, .int .i64 ((k : Int) + 4), .int .i64 ((k : Int) + 8), .int .i64 ((k : Int) + 12)] rfl rfl 89 quadZ hz hi4 rfl ho4 ?_)
    refine bodyPost_ret (results_cell_row rfl _ _ w.heap.size _ #[.int .i64 k, .int .i64 ((k : Int) + 4), .int .i64 ((k : Int) + 8), .int .i64 ((k : Int) + 12)] (0, 0) _ rfl (setRow_heap _ _ _ _ _ _ hz) Tryd.underlying89 rfl hi4) rfl ⟨by rw [Hq.out]; rfl, below_setRow ((Below.refl _ _).alloc (Nat.le_refl _) _) (Nat.le_refl _) _⟩
  · obtain ⟨q, rfl⟩ : ∃ q, k = q + 4 := ⟨k - 4, by omega⟩
    have Hq := Lib.hid (quad_great q (by omega))
    have hz := heap_alloc_new w (.cells quadZ 89)
    have hs : ((q + 4 : Nat) : Int) = (q : Int) + 4 := by omega
    rw [hs]
    clear hs
    have hi4 : (Tryd.prog.info? 89).map (·.size) = some (#[.int .i64 q, .int .i64 (4 + ((q : Int) + 1) % 4), .int .i64 (8 + ((q : Int) + 2) % 4), .int .i64 (12 + ((q : Int) + 3) % 4)] : Array Value).size := by kernel_rfl
    have ho4 : (#[.int .i64 q, .int .i64 (4 + ((q : Int) + 1) % 4), .int .i64 (8 + ((q : Int) + 2) % 4), .int .i64 (12 + ((q : Int) + 3) % 4)] : Array Value).all (·.oneCell') = true := by simp [Value.oneCell']
    go_enter Tryd.func73, Tryd.ntmps73
    go_wp2_with (refine wpList_store_row rfl 89 _ _ rfl w.heap.size #[.int .i64 q, .int .i64 (4 + ((q : Int) + 1) % 4), .int .i64 (8 + ((q : Int) + 2) % 4), .int .i64 (12 + ((q : Int) + 3) % 4)] rfl rfl 89 quadZ hz hi4 rfl ho4 ?_)
    refine bodyPost_ret (results_cell_row rfl _ _ w.heap.size _ #[.int .i64 q, .int .i64 (4 + ((q : Int) + 1) % 4), .int .i64 (8 + ((q : Int) + 2) % 4), .int .i64 (12 + ((q : Int) + 3) % 4)] (0, 0) _ rfl (setRow_heap _ _ _ _ _ _ hz) Tryd.underlying89 rfl hi4) rfl ⟨by rw [Hq.out]; rfl, below_setRow ((Below.refl _ _).alloc (Nat.le_refl _) _) (Nat.le_refl _) _⟩
end Go.Proofs.YtmapjaihkmjmmaaDoor
