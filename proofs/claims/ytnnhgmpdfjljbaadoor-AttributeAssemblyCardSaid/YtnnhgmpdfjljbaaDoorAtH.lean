/-
  Walks of layer 32: slices.DeleteFunc at attributes, Remove.
-/
import Derived.Test.YtnnhgmpdfjljbaaDoorAtG
import Derived.Laws.CopyRow
namespace Go.Proofs.YtnnhgmpdfjljbaaDoor
open Go.RowKit

/-- 'clear(s)', s a part of a row, of elements of whatever size. -/
theorem run_clear_k {P : Program} (w : World) (t e ty : TypeId) (z : Value) (ht : P.underlying t = some (.slice e)) (hv : ∀ w, (zeroValue e).run P w = .ok z w) (g o n c : Nat) (h1 : ∀ u ∈ (Builtin.zeroCells z.cells n).toList, u.oneCell' = true) (hn : 0 < n) (cur : Array Value) (tt : TypeId)
    (hg : w.heap[g]? = some (.cells cur tt (0, 0))) (hfit : o + n * z.cells.size ≤ cur.size) :
    (Builtin.clear_ #[t] ty #[.slice (some ⟨g, o, none⟩) n c]).run P w = .ok (.tuple #[]) (w.setRow g (cur.toList.take o ++ (Builtin.zeroCells z.cells n).toList ++ cur.toList.drop (o + n * z.cells.size)).toArray) := by
  have hl : (Builtin.zeroCells z.cells n).toList.length = n * z.cells.size := by rw [Array.length_toList, size_zeroCells]
  have hst := run_storeCells_at (P := P) g o tt (Builtin.zeroCells z.cells n).toList 0 cur w hg (by rw [hl]; omega) h1
  rw [hl] at hst
  simp only [Nat.add_zero] at hst
  obtain ⟨m, rfl⟩ : ∃ m, n = m + 1 := ⟨n - 1, by omega⟩
  simp [Builtin.clear_, run_underlying ht, hv, hst]

def encA (l : List At) : List Value := l.flatMap fun x => [S x.k, S x.v]
theorem encA_length (l : List At) : (encA l).length = l.length * 2 := by
  induction l with
  | nil => rfl
  | cons x l ih => simp only [encA, List.flatMap_cons, List.length_append, List.length_cons, List.length_nil] at ih ⊢; omega
theorem encA_append (l m : List At) : encA (l ++ m) = encA l ++ encA m := by simp [encA]
theorem encA_at (l : List At) (i : Nat) (h : i < l.length) : (encA l)[i * 2]? = some (S l[i].k) ∧ (encA l)[i * 2 + 1]? = some (S l[i].v) := by
  have e : encA l = encA (l.take i) ++ ([S l[i].k, S l[i].v] ++ encA (l.drop (i + 1))) := by
    conv => lhs; rw [← List.take_append_drop i l, encA_append, List.drop_eq_getElem_cons h]
    rfl
  have hl : (encA (l.take i)).length = i * 2 := by rw [encA_length, List.length_take, Nat.min_eq_left (by omega)]
  rw [e]
  constructor
  · rw [List.getElem?_append_right (by omega), hl, Nat.sub_self]; rfl
  · rw [List.getElem?_append_right (by omega), hl, show i * 2 + 1 - i * 2 = 1 by omega]; rfl
theorem encA_take (l : List At) (i : Nat) : (encA l).take (i * 2) = encA (l.take i) := by
  conv => lhs; rw [← List.take_append_drop i l, encA_append]
  rcases Nat.le_total i l.length with h | h
  · rw [List.take_append_of_le_length (by rw [encA_length, List.length_take]; omega), List.take_of_length_le (by rw [encA_length, List.length_take]; omega)]
  · rw [List.take_of_length_le (l := l) h, List.drop_of_length_le h]
    simp only [encA, List.flatMap_nil, List.append_nil]
    rw [List.take_of_length_le]
    have := encA_length l
    simp only [encA] at this
    omega
theorem lies_enc {I : IH} {xs : List Value} {l : List At} (h : LiesL tAt I xs l) : xs = encA l := by
  have hs : tAt.size = 2 := rfl
  apply List.ext_getElem?
  intro q
  by_cases hq : q < l.length * 2
  · obtain ⟨cs, h1, h2⟩ := h.2 (q / 2) (by omega)
    have e : cs = [S l[q / 2].k, S l[q / 2].v] := h1
    subst e
    obtain ⟨e0, e1⟩ := encA_at l (q / 2) (by omega)
    rcases (show q % 2 = 0 ∨ q % 2 = 1 by omega) with hm | hm
    · have := h2 0 _ rfl
      rw [hs, show q / 2 * 2 + 0 = q by omega] at this
      rw [show q / 2 * 2 = q by omega] at e0
      rw [this, e0]
    · have := h2 1 _ rfl
      rw [hs, show q / 2 * 2 + 1 = q by omega] at this
      rw [show q / 2 * 2 + 1 = q by omega] at e1
      rw [this, e1]
  · rw [List.getElem?_eq_none (by rw [h.1, hs]; omega), List.getElem?_eq_none (by rw [encA_length]; omega)]
theorem enc_lies (I : IH) (l : List At) : LiesL tAt I (encA l) l := by
  refine ⟨encA_length l, fun i hi => ⟨_, rfl, fun j u hu => ?_⟩⟩
  obtain ⟨e0, e1⟩ := encA_at l i hi
  have hs : tAt.size = 2 := rfl
  rw [hs]
  match j, hu with
  | 0, hu => rw [Nat.add_zero, e0]; simpa using hu
  | 1, hu => rw [e1]; simpa using hu

theorem heap_set1 {w : World} {b i : Nat} {arr : Array Value} {t : TypeId} {f : Nat × Nat} (v : Value) (h : w.heap[b]? = some (.cells arr t f)) : (w.setCell ⟨b, i, none⟩ v).heap[b]? = some (.cells (arr.setIfInBounds i v) t f) := by
  unfold World.setCell
  rw [Array.getElem?_modify, if_pos rfl, h]
  rfl

theorem grown_belowA {B : Nat} {w w' : World} {r : Option Nat} (h : Below B w w') (hB : w.heap.size ≤ B) : w.grownBy w' r :=
  ⟨h.os, h.tape, h.output, h.size, fun k hk _ => h.block k (by omega)⟩
theorem grown_transA {w w1 w2 : World} {r : Option Nat} (h : w.grownBy w1 r) (k : w1.grownBy w2 r) : w.grownBy w2 r :=
  ⟨k.os.trans h.os, k.tape.trans h.tape, k.output.trans h.output, Nat.le_trans h.size k.size, fun j hj hne => (k.block j (Nat.lt_of_lt_of_le hj h.size) hne).trans (h.block j hj hne)⟩

/-- The row of DeleteFunc between two rounds: what stays, then what has not been looked at. -/
structure DelM (B gb : Nat) (cur : Array Value) (w0 : World) (F : List At) (j : Nat) (X : World) : Prop where
  row_ : ∃ arr, X.heap[gb]? = some (.cells arr 34 (0, 0)) ∧ arr.size = cur.size ∧ arr.toList.take (F.length * 2) = encA F ∧ arr.toList.drop (j * 2) = cur.toList.drop (j * 2)
  grown : w0.grownBy X (some gb)
theorem DelM.pass {B gb j : Nat} {cur : Array Value} {w0 X X' : World} {F : List At} (h : DelM B gb cur w0 F j X) (hb : Below X.heap.size X X') : DelM B gb cur w0 F j X' := by
  obtain ⟨arr, h1, h2⟩ := h.row_
  have hlt : gb < X.heap.size := (Array.getElem?_eq_some_iff.1 h1).1
  refine ⟨⟨arr, (hb.block _ hlt).trans h1, h2⟩, ?_⟩
  exact ⟨hb.os.trans h.grown.os, hb.tape.trans h.grown.tape, hb.output.trans h.grown.output, Nat.le_trans h.grown.size hb.size, fun k hk hne => (hb.block k (Nat.lt_of_lt_of_le hk h.grown.size)).trans (h.grown.block k hk hne)⟩
theorem DelM.next {B gb j : Nat} {cur : Array Value} {w0 X : World} {F : List At} (h : DelM B gb cur w0 F j X) : DelM B gb cur w0 F (j + 1) X := by
  obtain ⟨arr, h1, h2, h3, h4⟩ := h.row_
  refine ⟨⟨arr, h1, h2, h3, ?_⟩, h.grown⟩
  rw [show (j + 1) * 2 = j * 2 + 2 by omega, ← List.drop_drop, h4, List.drop_drop]
theorem take_set2 (L : List Value) (n : Nat) (a b : Value) (h : n + 1 < L.length) : ((L.set n a).set (n + 1) b).take (n + 2) = L.take n ++ [a, b] := by
  apply List.ext_getElem
  · simp; omega
  · intro q h1 h2
    simp at h1 h2
    simp only [List.getElem_take, List.getElem_set, List.getElem_append, List.length_take]
    by_cases hq : q < n
    · simp [show ¬ n + 1 = q by omega, show ¬ n = q by omega, show q < min n L.length by omega]
    · by_cases hq2 : q = n
      · subst hq2
        simp [show min q L.length = q by omega]
      · have : q = n + 1 := by omega
        subst this
        simp [show min n L.length = n by omega]
        omega
theorem DelM.put {B gb j : Nat} {cur : Array Value} {w0 X : World} {F : List At} (h : DelM B gb cur w0 F j X) (x : At) (hF : F.length ≤ j) (hj : j * 2 + 2 ≤ cur.size) :
    DelM B gb cur w0 (F ++ [x]) (j + 1) ((X.setCell ⟨gb, F.length * 2, none⟩ (S x.k)).setCell ⟨gb, F.length * 2 + 1, none⟩ (S x.v)) := by
  obtain ⟨arr, h1, h2, h3, h4⟩ := h.row_
  have hll : arr.toList.length = cur.size := by rw [Array.length_toList, h2]
  refine ⟨⟨_, heap_set1 _ (heap_set1 _ h1), by simp [h2], ?_, ?_⟩, ?_⟩
  · rw [List.length_append, List.length_singleton, show (F.length + 1) * 2 = F.length * 2 + 2 by omega]
    simp only [Array.toList_setIfInBounds]
    rw [take_set2 _ _ _ _ (by omega), h3, encA_append]; rfl
  · simp only [Array.toList_setIfInBounds]
    rw [List.drop_set_of_lt (by omega), List.drop_set_of_lt (by omega), show (j + 1) * 2 = j * 2 + 2 by omega, ← List.drop_drop, h4, List.drop_drop]
  · have g1 := h.grown
    refine ⟨g1.os, g1.tape, g1.output, by have := g1.size; simp [World.setCell]; omega, fun k hk hne => ?_⟩
    rw [Below.heap_setCell _ _ _ _ (fun e => hne (by rw [e])), Below.heap_setCell _ _ _ _ (fun e => hne (by rw [e]))]
    exact g1.block k hk hne
theorem DelM.cell {B gb j : Nat} {cur : Array Value} {w0 X : World} {F : List At} (h : DelM B gb cur w0 F j X) (q : Nat) (hq : j * 2 ≤ q) : X.cell? ⟨gb, q, none⟩ = cur[q]? := by
  obtain ⟨arr, h1, h2, h3, h4⟩ := h.row_
  rw [cell_of_row X gb q _ _ _ h1, ← Array.getElem?_toList, ← Array.getElem?_toList]
  have e1 := congrArg (fun L => L[q - j * 2]?) h4
  simp only [List.getElem?_drop] at e1
  rwa [show j * 2 + (q - j * 2) = q by omega] at e1
theorem DelM.some_ {B gb j : Nat} {cur : Array Value} {w0 X : World} {F : List At} (h : DelM B gb cur w0 F j X) (q : Nat) (hq : q < cur.size) : ∃ u, X.cell? ⟨gb, q, none⟩ = some u := by
  obtain ⟨arr, h1, h2, h3, h4⟩ := h.row_
  rw [cell_of_row X gb q _ _ _ h1]
  exact ⟨_, Array.getElem?_eq_getElem (by omega)⟩
theorem DelM.fr {B gb j : Nat} {cur : Array Value} {w0 X : World} {F : List At} (h : DelM B gb cur w0 F j X) (q : Nat) : X.frozen? ⟨gb, q, none⟩ = false := by
  obtain ⟨arr, h1, _⟩ := h.row_
  exact frozen_of_row X gb q _ _ h1
end Go.Proofs.YtnnhgmpdfjljbaaDoor
