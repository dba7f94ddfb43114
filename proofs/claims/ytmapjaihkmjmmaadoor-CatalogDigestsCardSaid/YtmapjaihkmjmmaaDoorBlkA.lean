/-
  Walks of layer 4 (blake2s): the rotations.
-/
import Derived.Test.YtmapjaihkmjmmaaDoorOwn
import Derived.BigRegion
import Derived.OpenShut
import Derived.DataShut
import Derived.Test.YtmapjaihkmjmmaaDoorShelf
namespace Go.Proofs.YtmapjaihkmjmmaaDoor
open Go.RowKit

/-- A word rotated right by k places; d is 2^k, m is 2^(32-k). -/
def rotr (d m x : Int) : Int := bits .or .u32 (x / d) (x * m % 4294967296)

theorem bits_or_comm (k : IntKind) (x y : Int) : bits .or k x y = bits .or k y x := by
  simp only [bits, BitVec.or_comm]

theorem u32_bits (op : BinOp) (x y : Int) : 0 ≤ bits op .u32 x y ∧ bits op .u32 x y < 4294967296 := by
  have h := Go.wf_bits op .u32 x y
  rw [Go.Lit.wf_int_iff] at h
  have k0 : IntKind.u32.min = 0 := rfl
  have k1 : IntKind.u32.max = 4294967295 := rfl
  omega
theorem u32_rotr (d m x : Int) : 0 ≤ rotr d m x ∧ rotr d m x < 4294967296 := u32_bits _ _ _

/-- d, m: the places of a rotation. -/
def RotAt (k d m : Int) : Prop := (k = 16 ∧ d = 65536 ∧ m = 65536) ∨ (k = 12 ∧ d = 4096 ∧ m = 1048576) ∨ (k = 8 ∧ d = 256 ∧ m = 16777216) ∨ (k = 7 ∧ d = 128 ∧ m = 33554432)

set_option maxRecDepth 100000 in
theorem bits_rotl (x : Int) (k d m : Int) (hk : RotAt k d m) (w : World) :
    Calls Tryd.prog 71 #[.int .u32 x, .int .i64 (-k)] w fun e w' => e = .returned (.int .u32 (rotr d m x)) ∧ w' = w := by
  rcases hk with ⟨rfl, rfl, rfl⟩ | ⟨rfl, rfl, rfl⟩ | ⟨rfl, rfl, rfl⟩ | ⟨rfl, rfl, rfl⟩
  · have e1 : IntKind.u64.wrap (-16) = 18446744073709551600 := by decide
    have e2 : bits .and .u64 18446744073709551600 31 = 16 := by decide
    go_enter Tryd.func71, Tryd.ntmps71
    go_wp2
    go_ret
    exact ⟨ret_i (bits_or_comm _ _ _), rfl⟩
  · have e1 : IntKind.u64.wrap (-12) = 18446744073709551604 := by decide
    have e2 : bits .and .u64 18446744073709551604 31 = 20 := by decide
    go_enter Tryd.func71, Tryd.ntmps71
    go_wp2
    go_ret
    exact ⟨ret_i (bits_or_comm _ _ _), rfl⟩
  · have e1 : IntKind.u64.wrap (-8) = 18446744073709551608 := by decide
    have e2 : bits .and .u64 18446744073709551608 31 = 24 := by decide
    go_enter Tryd.func71, Tryd.ntmps71
    go_wp2
    go_ret
    exact ⟨ret_i (bits_or_comm _ _ _), rfl⟩
  · have e1 : IntKind.u64.wrap (-7) = 18446744073709551609 := by decide
    have e2 : bits .and .u64 18446744073709551609 31 = 25 := by decide
    go_enter Tryd.func71, Tryd.ntmps71
    go_wp2
    go_ret
    exact ⟨ret_i (bits_or_comm _ _ _), rfl⟩

set_option maxRecDepth 100000 in
theorem ref04_rotate (x : Int) (k d m : Int) (hk : RotAt k d m) (w : World) :
    Calls Tryd.prog 83 #[.int .u32 x, .int .u64 k] w fun e w' => e = .returned (.int .u32 (rotr d m x)) ∧ w' = w := by
  rcases hk with ⟨rfl, rfl, rfl⟩ | ⟨rfl, rfl, rfl⟩ | ⟨rfl, rfl, rfl⟩ | ⟨rfl, rfl, rfl⟩
  all_goals
    go_enter Tryd.func83, Tryd.ntmps83
    go_wp2
    go_ret
    exact ⟨ret_i rfl, rfl⟩
/-- A row of words. -/
def row (l : List Int) : Array Value := (l.map fun x => Value.int .u32 x).toArray
@[simp] theorem row_size (l : List Int) : (row l).size = l.length := by simp [row]
theorem row_at {l : List Int} {i : Nat} (h : i < l.length) : (row l)[i]? = some (.int .u32 (l.getD i 0)) := by
  simp [row, List.getD, List.getElem?_eq_getElem h]
theorem row_set (l : List Int) (i : Nat) (v : Int) : (row l).setIfInBounds i (.int .u32 v) = row (l.set i v) := by
  simp [row, List.map_set]

theorem heap_setCell {w : World} {b i : Nat} {l : List Int} {t : TypeId} {f : Nat × Nat} (v : Int) (h : w.heap[b]? = some (.cells (row l) t f)) : (w.setCell ⟨b, i, none⟩ (.int .u32 v)).heap[b]? = some (.cells (row (l.set i v)) t f) := by
  unfold World.setCell
  rw [Array.getElem?_modify, if_pos rfl, h]
  simp [row_set]
theorem grown_setCell (w : World) (a : Addr) (u : Value) : w.grownBy (w.setCell a u) (some a.block) :=
  ⟨rfl, rfl, rfl, by simp [World.setCell], fun k _ hne => Below.heap_setCell _ _ _ _ (fun e => hne (by rw [e]))⟩
theorem grown_below {B : Nat} {w w' : World} {r : Option Nat} (h : Below B w w') (hB : w.heap.size ≤ B) : w.grownBy w' r :=
  ⟨h.os, h.tape, h.output, h.size, fun k hk _ => h.block k (by omega)⟩
theorem grown_trans {w w1 w2 : World} {r : Option Nat} (h : w.grownBy w1 r) (k : w1.grownBy w2 r) : w.grownBy w2 r :=
  ⟨k.os.trans h.os, k.tape.trans h.tape, k.output.trans h.output, Nat.le_trans h.size k.size, fun j hj hne => (k.block j (Nat.lt_of_lt_of_le hj h.size) hne).trans (h.block j hj hne)⟩

theorem grown_drew {w w' : World} {r : Option Nat} (h : w.grownBy w' r) : w.grownBy w'.drew r := ⟨h.os, h.tape, h.output, h.size, h.block⟩

/-- One mixing of four words with two. -/
def mixW (a b c d x y : Int) : Int × Int × Int × Int :=
  let a1 := (a + (b + x)) % 4294967296
  let d1 := rotr 65536 65536 (bits .xor .u32 d a1)
  let c1 := (c + d1) % 4294967296
  let b1 := rotr 4096 1048576 (bits .xor .u32 b c1)
  let a2 := (a1 + (b1 + y)) % 4294967296
  let d2 := rotr 256 16777216 (bits .xor .u32 d1 a2)
  let c2 := (c1 + d2) % 4294967296
  (a2, rotr 128 33554432 (bits .xor .u32 b1 c2), c2, d2)
/-- .. at four places of a row. -/
def mixP (l : List Int) (a b c d : Nat) (x y : Int) : List Int :=
  let r := mixW (l.getD a 0) (l.getD b 0) (l.getD c 0) (l.getD d 0) x y
  (((l.set a r.1).set b r.2.1).set c r.2.2.1).set d r.2.2.2
theorem mixP_length (l : List Int) (a b c d : Nat) (x y : Int) : (mixP l a b c d x y).length = l.length := by simp [mixP]
end Go.Proofs.YtmapjaihkmjmmaaDoor
