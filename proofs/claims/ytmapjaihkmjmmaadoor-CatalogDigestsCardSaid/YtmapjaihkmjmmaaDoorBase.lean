/-
  What a slice holds, said without a world: an immutable part of the heap ('IH'), and readings of Go values over it. Plain definitions and lemmas over any program.
-/
import Derived.WalkKit
import Derived.WalkSpells
import Derived.WalkLawsBesides
import Derived.Lib.Hide
import Derived.Lib.QuietBelow
import Derived.Deep.QuietTactic
import Derived.BigQuiet
import Derived.Laws.StructEq
namespace Go.Proofs.YtmapjaihkmjmmaaDoor
open Go.RowKit

abbrev Bytes := List UInt8
abbrev S (l : Bytes) : Value := .string ⟨l.toArray⟩

/-- The immutable part: block number to its cells. -/
abbrev IH := Nat → Option (Array Value)

def Ok (I : IH) (w : World) : Prop := ∀ b c, I b = some c → ∃ e f, w.heap[b]? = some (.cells c e f)

/-- Below n the immutable part is the same. -/
def Ext (n : Nat) (I I' : IH) : Prop := ∀ b, b < n → I' b = I b

def IH.add (I : IH) (b : Nat) (c : Array Value) : IH := fun k => if k = b then some c else I k

section
variable {I I' I'' : IH} {w w' : World} {b n m : Nat} {c : Array Value}

theorem Ok.lt (h : Ok I w) (hb : I b = some c) : b < w.heap.size := by
  obtain ⟨e, f, hh⟩ := h b c hb
  exact (Array.getElem?_eq_some_iff.1 hh).1
theorem Ok.fresh (h : Ok I w) (hb : w.heap.size ≤ b) : I b = none := by
  cases hc : I b with
  | none => rfl
  | some c => have := h.lt hc; omega
theorem Ok.cell (h : Ok I w) (hb : I b = some c) (j : Nat) : w.cell? ⟨b, j, none⟩ = c[j]? := by
  obtain ⟨e, f, hh⟩ := h b c hb
  simp [World.cell?, hh]
theorem Ok.of_block (h : Ok I w) (k : ∀ b c, I b = some c → w'.heap[b]? = w.heap[b]?) : Ok I w' := fun b c hb => by
  rw [k b c hb]; exact h b c hb
theorem Ok.below {B : Nat} (h : Ok I w) (hB : w.heap.size ≤ B) (hb : Below B w w') : Ok I w' :=
  h.of_block fun b _ hc => hb.block b (Nat.lt_of_lt_of_le (h.lt hc) hB)
theorem Ok.drew (h : Ok I w) : Ok I w.drew := h
theorem Ok.drewN (h : Ok I w) (n : Nat) : Ok I (w.drewN n) := h
theorem Ok.alloc (h : Ok I w) (o : Obj) : Ok I (w.alloc o) := h.of_block fun b _ hc => Below.heap_alloc w o b (h.lt hc)
theorem Ok.setCell (h : Ok I w) {a : Addr} (ha : I a.block = none) (u : Value) : Ok I (w.setCell a u) := h.of_block fun b _ hc =>
  Below.heap_setCell w a u b (fun e => by subst e; rw [ha] at hc; cases hc)
theorem Ok.grown (h : Ok I w) {row : Option Nat} (hg : w.grownBy w' row) (hr : ∀ g, row = some g → I g = none) : Ok I w' := h.of_block fun b _ hc =>
  hg.block b (h.lt hc) (fun e => by have := hr b e.symm; rw [this] at hc; cases hc)
theorem Ok.add {e : TypeId} {f : Nat × Nat} (h : Ok I w) (hb : w.heap[b]? = some (.cells c e f)) : Ok (I.add b c) w := fun k d hk => by
  unfold IH.add at hk
  split at hk
  · rename_i e'; subst e'; cases hk; exact ⟨e, f, hb⟩
  · exact h k d hk

theorem Ext.refl (n : Nat) (I : IH) : Ext n I I := fun _ _ => rfl
theorem Ext.trans (h : Ext n I I') (k : Ext m I' I'') (hm : n ≤ m) : Ext n I I'' := fun b hb => (k b (by omega)).trans (h b hb)
theorem Ext.mono (h : Ext n I I') (hm : m ≤ n) : Ext m I I' := fun b hb => h b (by omega)
theorem Ext.add (hb : n ≤ b) (I : IH) (c : Array Value) : Ext n I (I.add b c) := fun k hk => by
  unfold IH.add; rw [if_neg (by omega)]
/-- What was immutable stays so. -/
theorem Ext.keep (h : Ext n I I') (hok : Ok I w) (hn : w.heap.size ≤ n) : ∀ b c, I b = some c → I' b = some c := fun b c hc => by
  rw [h b (Nat.lt_of_lt_of_le (hok.lt hc) hn)]; exact hc
end

/-- How a Go type reads: 'size' cells as an element of α. -/
structure Ty (α : Type) where
  size : Nat
  rd : IH → List Value → α → Prop
  len : ∀ {I cs x}, rd I cs x → cs.length = size
  one : ∀ {I cs x}, rd I cs x → ∀ u ∈ cs, u.oneCell' = true
  mono : ∀ {I I' : IH} {cs x}, (∀ b c, I b = some c → I' b = some c) → rd I cs x → rd I' cs x

/-- A type without pointers: its cells are a function of the element. -/
def Ty.flat {α : Type} (size : Nat) (enc : α → List Value) (hl : ∀ x, (enc x).length = size) (h1 : ∀ x, ∀ u ∈ enc x, u.oneCell' = true) : Ty α where
  size := size
  rd := fun _ cs x => cs = enc x
  len := fun h => by rw [h]; exact hl _
  one := fun h => by rw [h]; exact h1 _
  mono := fun _ h => h

def tInt (k : IntKind) : Ty Int := Ty.flat 1 (fun n => [.int k n]) (fun _ => rfl) (fun _ u h => by simp at h; subst h; rfl)
def tStr : Ty Bytes := Ty.flat 1 (fun s => [S s]) (fun _ => rfl) (fun _ u h => by simp at h; subst h; rfl)

/-- Cells of elements laid one behind the other from 'off' on. -/
def Lies {α : Type} (T : Ty α) (I : IH) (arr : Array Value) (off : Nat) (l : List α) : Prop :=
  ∀ i (h : i < l.length), ∃ cs, T.rd I cs l[i] ∧ ∀ j u, cs[j]? = some u → arr[off + (i * T.size + j)]? = some u

/-- A slice value reads as the list l. -/
def RdS {α : Type} (T : Ty α) (I : IH) (v : Value) (l : List α) : Prop :=
  ∃ (ao : Option Addr) (cap : Nat), v = .slice ao l.length cap ∧ l.length ≤ cap ∧ cap ≤ maxLen ∧
    (0 < l.length → ∃ b off arr, ao = some ⟨b, off, none⟩ ∧ I b = some arr ∧ Lies T I arr off l)

section
variable {α : Type} {T : Ty α} {I I' : IH} {w : World} {v : Value} {l : List α}

theorem Lies.mono {arr : Array Value} {off : Nat} (hI : ∀ b c, I b = some c → I' b = some c) (h : Lies T I arr off l) : Lies T I' arr off l := fun i hi =>
  let ⟨cs, h1, h2⟩ := h i hi
  ⟨cs, T.mono hI h1, h2⟩
theorem RdS.mono (hI : ∀ b c, I b = some c → I' b = some c) (h : RdS T I v l) : RdS T I' v l := by
  obtain ⟨ao, cap, hv, h1, h2, h3⟩ := h
  refine ⟨ao, cap, hv, h1, h2, fun hl => ?_⟩
  obtain ⟨b, off, arr, e1, e2, e3⟩ := h3 hl
  exact ⟨b, off, arr, e1, hI _ _ e2, e3.mono hI⟩
theorem RdS.nil (T : Ty α) (I : IH) : RdS T I (.slice none 0 0) [] := ⟨none, 0, rfl, Nat.le_refl _, Nat.zero_le _, fun h => absurd h (by simp)⟩
theorem RdS.one {v : Value} (h : RdS T I v l) : v.oneCell' = true := by
  obtain ⟨ao, cap, rfl, _⟩ := h; rfl

def tSl (T : Ty α) : Ty (List α) where
  size := 1
  rd := fun I cs l => ∃ v, cs = [v] ∧ RdS T I v l
  len := fun ⟨v, h, _⟩ => by rw [h]; rfl
  one := fun ⟨v, h, k⟩ u hu => by rw [h] at hu; simp at hu; subst hu; exact k.one
  mono := fun hI ⟨v, h, k⟩ => ⟨v, h, k.mono hI⟩

/-- Element i of a slice: its address and its cells in the world. -/
theorem RdS.at_ (h : RdS T I v l) (hw : Ok I w) {i : Nat} (hi : i < l.length) : ∃ b off cap cs, v = .slice (some ⟨b, off, none⟩) l.length cap ∧ T.rd I cs l[i] ∧
    ∀ j u, cs[j]? = some u → w.cell? ⟨b, off + i * T.size + j, none⟩ = some u := by
  obtain ⟨ao, cap, hv, h1, h2, h3⟩ := h
  obtain ⟨b, off, arr, rfl, e2, e3⟩ := h3 (by omega)
  obtain ⟨cs, k1, k2⟩ := e3 i hi
  exact ⟨b, off, cap, cs, hv, k1, fun j u hu => by rw [hw.cell e2, Nat.add_assoc]; exact k2 j u hu⟩
theorem RdS.len_le (h : RdS T I v l) : l.length ≤ 9223372036854775807 := by
  obtain ⟨ao, cap, hv, h1, h2, h3⟩ := h
  unfold maxLen at h2; omega
end

/-! ### Strings as lists of bytes, in the walk's own spelling -/
@[go_sem] theorem mk_append_mk (x y : Bytes) : (ByteArray.mk x.toArray ++ ByteArray.mk y.toArray) = ByteArray.mk (x ++ y).toArray := ByteArray.mk_append_mk x y
@[go_sem] theorem mk_extract (x : Bytes) (a b : Nat) : (ByteArray.mk x.toArray).extract a b = ByteArray.mk ((x.drop a).take (b - a)).toArray := by
  apply ByteArray.ext
  simp [ByteArray.data_extract]
theorem mk_eta (s : ByteArray) : ByteArray.mk s.data.toList.toArray = s := by simp

theorem push_empty (b : UInt8) : ByteArray.empty.push b = ByteArray.mk [b].toArray := rfl
/-- 'string([]byte{c})', the slice just built. -/
theorem conv_byte {P : Program} (src dst e : TypeId) (hs : P.underlying src = some (.slice e)) (he : P.underlying e = some (.int .u8)) (hd : P.underlying dst = some .string) (W : World) (t : TypeId) (v : Int) :
    (convert src dst (.slice (some ⟨W.heap.size, 0, none⟩) 1 1)).run P (W.alloc (.cells #[.int .u8 v] t)) = .ok (S [UInt8.ofNat v.toNat]) (W.alloc (.cells #[.int .u8 v] t)) := by
  rw [run_convert_bytes_string _ _ _ e _ _ _ hs he hd, run_bytesToString (ns := [v])]
  · rfl
  · exact run_loadCells_list (P := P) _ ⟨W.heap.size, 0, none⟩ [Value.int .u8 v] (fun j u hu => by
      rw [Addr.add_lit, World.cell?_alloc_at _ _ _ _ rfl]
      simpa using hu)
theorem ret_s {a b : Bytes} (h : a = b) : Ending.returned (S a) = .returned (S b) := by rw [h]
theorem ret_i {k : IntKind} {a b : Int} (h : a = b) : Ending.returned (.int k a) = .returned (.int k b) := by rw [h]
theorem ret_b {a b : Bool} (h : a = b) : Ending.returned (.bool a) = .returned (.bool b) := by rw [h]

/-- Equality of structs, field by field, the fields given as type, offset, blank. -/
@[go_sem] def eqL (d : Nat) (xs ys : Array Value) : List (TypeId × Nat × Bool) → Sem Bool
  | [] => pure true
  | (t, o, b) :: fs => if b then eqL d xs ys fs else do
      let a ← part t xs o
      let b ← part t ys o
      let r ← Op.equalIn d t a b
      if (!r) = true then pure false else eqL d xs ys fs
theorem eqFields_eqL (d : Nat) (xs ys : Array Value) : ∀ fs : List Field, Op.eqFields d xs ys fs = eqL d xs ys (fs.map fun f => (f.type, f.offset, f.name == "_"))
  | [] => rfl
  | f :: fs => by
    simp only [Op.eqFields, List.map_cons, eqL, eqFields_eqL d xs ys fs]
    by_cases h : f.name = "_" <;> simp [h]
theorem run_neq_of {P : Program} {t : TypeId} (xs ys : Array Value) (L : List (TypeId × Nat × Bool)) (W : World) (h1 : P.underlying t = some (.struct (P.fieldsOf t))) (h2 : P.stoodInHeld t = false)
    (hL : (P.fieldsOf t).toList.map (fun f => (f.type, f.offset, f.name == "_")) = L) :
    (binOp .neq t (.agg xs) (.agg ys)).run P W = ((eqL 9999 xs ys L).run P W).andThen fun b w' => .ok (.bool (!b)) w' := by
  rw [run_neq_struct, show (10000 : Nat) = 9999 + 1 from rfl, run_equalIn_agg _ _ _ _ _ h1 h2, eqFields_eqL, hL]
theorem run_eql_of {P : Program} {t : TypeId} (xs ys : Array Value) (L : List (TypeId × Nat × Bool)) (W : World) (h1 : P.underlying t = some (.struct (P.fieldsOf t))) (h2 : P.stoodInHeld t = false)
    (hL : (P.fieldsOf t).toList.map (fun f => (f.type, f.offset, f.name == "_")) = L) :
    (binOp .eql t (.agg xs) (.agg ys)).run P W = ((eqL 9999 xs ys L).run P W).andThen fun b w' => .ok (.bool b) w' := by
  rw [run_eql_struct, show (10000 : Nat) = 9999 + 1 from rfl, run_equalIn_agg _ _ _ _ _ h1 h2, eqFields_eqL, hL]
end Go.Proofs.YtmapjaihkmjmmaaDoor
