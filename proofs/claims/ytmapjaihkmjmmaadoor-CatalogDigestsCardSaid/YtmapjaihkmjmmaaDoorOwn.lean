/-
  Rows that a call owns, read as lists; from a reading to the cells and back. Plain lemmas over any program.
-/
import Derived.Test.YtmapjaihkmjmmaaDoorBase
namespace Go.Proofs.YtmapjaihkmjmmaaDoor
open Go.RowKit

/-- A cell behind a call that leaves old memory alone. -/
theorem cell_thru {W w' : World} {a : Addr} {x : Value} (hb : Below W.heap.size W w') (h : W.cell? a = some x) : w'.cell? a = some x := (hb.cell (block_lt_of_cell h)).trans h
/-- .. and one block laid ahead of it. -/
theorem cell_past {W : World} {a : Addr} {x : Value} (o : Obj) (h : W.cell? a = some x) : (W.alloc o).cell? a = some x := (World.cell?_alloc_lt _ _ _ (block_lt_of_cell h)).trans h

/-- .. and behind growth of a row elsewhere. -/
theorem cell_own {W w' : World} {a : Addr} {x : Value} {row : Option Nat} (hg : W.grownBy w' row) (hne : row ≠ some a.block) (h : W.cell? a = some x) : w'.cell? a = some x :=
  (World.cell?_of_block (hg.block _ (block_lt_of_cell h) (fun e => hne e.symm))).trans h

/-- Cells read as the elements of l, one behind the other. -/
def LiesL {α : Type} (T : Ty α) (I : IH) (xs : List Value) (l : List α) : Prop :=
  xs.length = l.length * T.size ∧ ∀ i (h : i < l.length), ∃ cs, T.rd I cs l[i] ∧ ∀ j u, cs[j]? = some u → xs[i * T.size + j]? = some u

/-- The row that v owns reads as l. -/
def OwnS {α : Type} (T : Ty α) (E : TypeId) (I : IH) (w : World) (B : Nat) (v : Value) (l : List α) : Prop :=
  ∃ xs, w.ownsRow B E T.size v l.length xs ∧ LiesL T I xs l

section
variable {α : Type} {T : Ty α} {I I' : IH} {w w' : World} {v : Value} {l : List α} {xs : List Value} {E : TypeId} {B : Nat}

theorem LiesL.mono (hI : ∀ b c, I b = some c → I' b = some c) (h : LiesL T I xs l) : LiesL T I' xs l :=
  ⟨h.1, fun i hi => let ⟨cs, h1, h2⟩ := h.2 i hi; ⟨cs, T.mono hI h1, h2⟩⟩

theorem LiesL.nil (T : Ty α) (I : IH) : LiesL T I [] [] := ⟨by simp, fun i h => absurd h (by simp)⟩

theorem LiesL.one {x : α} {cs : List Value} (h : T.rd I cs x) : LiesL T I cs [x] := by
  refine ⟨by simp [T.len h], fun i hi => ⟨cs, ?_, fun j u hu => ?_⟩⟩
  · have : i = 0 := by simp at hi; omega
    subst this; exact h
  · have : i = 0 := by simp at hi; omega
    subst this; simpa using hu

theorem LiesL.append {ys : List Value} {m : List α} (h : LiesL T I xs l) (k : LiesL T I ys m) : LiesL T I (xs ++ ys) (l ++ m) := by
  refine ⟨by rw [List.length_append, List.length_append, h.1, k.1, Nat.add_mul], fun i hi => ?_⟩
  by_cases hl : i < l.length
  · obtain ⟨cs, h1, h2⟩ := h.2 i hl
    refine ⟨cs, by rw [List.getElem_append_left hl]; exact h1, fun j u hu => ?_⟩
    have hx := h2 j u hu
    rw [List.getElem?_append_left (List.getElem?_eq_some_iff.1 hx).1]; exact hx
  · obtain ⟨cs, h1, h2⟩ := k.2 (i - l.length) (by simp at hi; omega)
    refine ⟨cs, by rw [List.getElem_append_right (by omega)]; exact h1, fun j u hu => ?_⟩
    have hx := h2 j u hu
    have e : i * T.size + j = xs.length + ((i - l.length) * T.size + j) := by
      rw [h.1, Nat.sub_mul]
      have := Nat.mul_le_mul_right T.size (show l.length ≤ i by omega)
      omega
    rw [e, List.getElem?_append_right (by omega), Nat.add_sub_cancel_left]; exact hx

theorem LiesL.take (h : LiesL T I xs l) (n : Nat) : LiesL T I (xs.take (n * T.size)) (l.take n) := by
  refine ⟨by
    rw [List.length_take, List.length_take, h.1]
    rcases Nat.le_total n l.length with hn | hn
    · rw [Nat.min_eq_left hn, Nat.min_eq_left (Nat.mul_le_mul_right _ hn)]
    · rw [Nat.min_eq_right hn, Nat.min_eq_right (Nat.mul_le_mul_right _ hn)], fun i hi => ?_⟩
  have hi' : i < n ∧ i < l.length := by simp at hi; omega
  obtain ⟨cs, h1, h2⟩ := h.2 i hi'.2
  refine ⟨cs, by rw [List.getElem_take]; exact h1, fun j u hu => ?_⟩
  have hj : j < T.size := by rw [← T.len h1]; exact (List.getElem?_eq_some_iff.1 hu).1
  have := Nat.mul_le_mul_right T.size (show i + 1 ≤ n by omega)
  rw [Nat.add_mul] at this
  rw [List.getElem?_take_of_lt (by omega)]
  exact h2 j u hu

theorem LiesL.drop (h : LiesL T I xs l) (n : Nat) : LiesL T I (xs.drop (n * T.size)) (l.drop n) := by
  refine ⟨by rw [List.length_drop, List.length_drop, h.1, Nat.sub_mul], fun i hi => ?_⟩
  have hi' : n + i < l.length := by simp at hi; omega
  obtain ⟨cs, h1, h2⟩ := h.2 (n + i) hi'
  refine ⟨cs, by rw [List.getElem_drop]; exact h1, fun j u hu => ?_⟩
  rw [List.getElem?_drop, ← Nat.add_assoc, ← Nat.add_mul]
  exact h2 j u hu

theorem LiesL.oneCell (h : LiesL T I xs l) : ∀ u ∈ xs, u.oneCell' = true := by
  intro u hu
  obtain ⟨p, hp, rfl⟩ := List.getElem_of_mem hu
  have hs : 0 < T.size := by
    rcases Nat.eq_zero_or_pos T.size with h0 | h0
    · have := h.1; rw [h0, Nat.mul_zero] at this; omega
    · exact h0
  have hi : p / T.size < l.length := by rw [Nat.div_lt_iff_lt_mul hs, ← h.1]; exact hp
  obtain ⟨cs, h1, h2⟩ := h.2 _ hi
  have hj : p % T.size < cs.length := by rw [T.len h1]; exact Nat.mod_lt _ hs
  have hx := h2 (p % T.size) _ (List.getElem?_eq_getElem hj)
  rw [show p / T.size * T.size + p % T.size = p by rw [Nat.mul_comm]; exact Nat.div_add_mod p T.size, List.getElem?_eq_getElem hp] at hx
  rw [Option.some.inj hx]
  exact T.one h1 _ (List.getElem_mem hj)

/-- The cells of a slice that reads as l. -/
theorem RdS.cells (h : RdS T I v l) (hw : Ok I w) (hs : 0 < T.size) : ∃ (ao : Option Addr) (cap : Nat) (xs : List Value), v = .slice ao l.length cap ∧ l.length ≤ cap ∧ cap ≤ maxLen ∧ LiesL T I xs l ∧
    (0 < l.length → ∃ b off arr, ao = some ⟨b, off, none⟩ ∧ I b = some arr ∧ b < w.heap.size ∧ ∀ j u, xs[j]? = some u → w.cell? ⟨b, off + j, none⟩ = some u) := by
  obtain ⟨ao, cap, hv, h1, h2, h3⟩ := h
  rcases Nat.eq_zero_or_pos l.length with h0 | h0
  · have : l = [] := List.eq_nil_of_length_eq_zero h0
    subst this
    exact ⟨ao, cap, [], hv, h1, h2, LiesL.nil T I, fun h => absurd h (by simp)⟩
  · obtain ⟨b, off, arr, e1, e2, e3⟩ := h3 h0
    have hsz : off + l.length * T.size ≤ arr.size := by
      obtain ⟨cs, k1, k2⟩ := e3 (l.length - 1) (by omega)
      have hx := k2 (T.size - 1) _ (List.getElem?_eq_getElem (by rw [T.len k1]; omega))
      have := (Array.getElem?_eq_some_iff.1 hx).1
      have e : (l.length - 1) * T.size + T.size = l.length * T.size := by
        rw [← Nat.succ_mul, Nat.succ_eq_add_one, show l.length - 1 + 1 = l.length by omega]
      omega
    refine ⟨ao, cap, (arr.toList.drop off).take (l.length * T.size), hv, h1, h2, ⟨by simp; omega, fun i hi => ?_⟩, fun _ => ⟨b, off, arr, e1, e2, hw.lt e2, fun j u hu => ?_⟩⟩
    · obtain ⟨cs, k1, k2⟩ := e3 i hi
      refine ⟨cs, k1, fun j u hu => ?_⟩
      have hj : j < T.size := by rw [← T.len k1]; exact (List.getElem?_eq_some_iff.1 hu).1
      have := Nat.mul_le_mul_right T.size (show i + 1 ≤ l.length by omega)
      rw [Nat.add_mul] at this
      rw [List.getElem?_take_of_lt (by omega), List.getElem?_drop, Array.getElem?_toList]
      exact k2 j u hu
    · rw [hw.cell e2]
      rw [List.getElem?_take] at hu
      split at hu
      · rw [List.getElem?_drop, Array.getElem?_toList] at hu; exact hu
      · cases hu

theorem OwnS.kept {row : Option Nat} (h : OwnS T E I w B v l) (hg : w.grownBy w' row) (hne : v.ownBlock = none ∨ v.ownBlock ≠ row) : OwnS T E I w' B v l :=
  let ⟨xs, h1, h2⟩ := h
  ⟨xs, h1.kept hg hne, h2⟩
theorem OwnS.below (h : OwnS T E I w B v l) (hb : Below w.heap.size w w') : OwnS T E I w' B v l :=
  h.kept (row := none) ⟨hb.os, hb.tape, hb.output, hb.size, fun k hk _ => hb.block k hk⟩ (by cases v.ownBlock <;> simp)
theorem OwnS.alloc (h : OwnS T E I w B v l) (o : Obj) : OwnS T E I (w.alloc o) B v l :=
  let ⟨xs, h1, h2⟩ := h
  ⟨xs, h1.alloc o, h2⟩
theorem OwnS.drew (h : OwnS T E I w B v l) : OwnS T E I w.drew B v l := h
theorem OwnS.mono (hI : ∀ b c, I b = some c → I' b = some c) (h : OwnS T E I w B v l) : OwnS T E I' w B v l :=
  let ⟨xs, h1, h2⟩ := h
  ⟨xs, h1, h2.mono hI⟩
theorem OwnS.lower {B' : Nat} (h : OwnS T E I w B v l) (hB : B' ≤ B) : OwnS T E I w B' v l := by
  obtain ⟨xs, ⟨h1, h1'⟩, h2⟩ := h
  refine ⟨xs, ⟨h1, ?_⟩, h2⟩
  rcases h1' with h0 | ⟨g, cap, cur, a, b, c⟩
  · exact .inl h0
  · exact .inr ⟨g, cap, cur, a, by omega, c⟩
theorem OwnS.nil (T : Ty α) (E : TypeId) (I : IH) (w : World) (B : Nat) : OwnS T E I w B (.slice none 0 0) [] := ⟨[], World.ownsRow_nil w B E T.size, LiesL.nil T I⟩

theorem OwnS.ne_ge (h : OwnS T E I w B v l) {b : Nat} (hb : w.heap.size ≤ b) : v.ownBlock ≠ some b := by
  obtain ⟨xs, h1, _⟩ := h
  intro e
  have := (h1.lt b e).2
  omega
theorem OwnS.ne_lt (h : OwnS T E I w B v l) {b : Nat} (hb : b < B) : v.ownBlock ≠ some b := by
  obtain ⟨xs, h1, _⟩ := h
  intro e
  have := (h1.lt b e).1
  omega
theorem OwnS.own_ge (h : OwnS T E I w B v l) {b : Nat} (e : v.ownBlock = some b) : B ≤ b := by
  obtain ⟨xs, h1, _⟩ := h
  exact (h1.lt b e).1

/-- What is owned becomes immutable. -/
theorem OwnS.freeze (h : OwnS T E I w B v l) (hw : Ok I w) (hI : ∀ b, B ≤ b → I b = none) : ∃ I', Ext B I I' ∧ Ok I' w ∧ RdS T I' v l ∧ ∀ b, v.ownBlock ≠ some b → I' b = I b := by
  obtain ⟨xs, ⟨h1, h1'⟩, h2⟩ := h
  rcases h1' with ⟨rfl, h0⟩ | ⟨g, cap, cur, rfl, hb, hg, hnc, hcm, hcs, ht⟩
  · refine ⟨I, Ext.refl _ _, hw, ?_, fun _ _ => rfl⟩
    have : l = [] := List.eq_nil_of_length_eq_zero h0
    subst this
    exact RdS.nil T I
  · have hkeep : ∀ b c, I b = some c → (I.add g cur) b = some c := fun b c hc => by
      unfold IH.add
      by_cases e : b = g
      · subst e; rw [hI _ hb] at hc; cases hc
      · rw [if_neg e]; exact hc
    refine ⟨I.add g cur, Ext.add hb I cur, hw.add hg, ⟨_, cap, rfl, hnc, hcm, fun _ => ⟨g, 0, cur, rfl, by simp [IH.add], fun i hi => ?_⟩⟩, fun b hbn => ?_⟩
    · obtain ⟨cs, k1, k2⟩ := h2.2 i hi
      refine ⟨cs, T.mono hkeep k1, fun j u hu => ?_⟩
      have hx := k2 j u hu
      rw [← ht, List.getElem?_take] at hx
      split at hx
      · rw [Nat.zero_add, ← Array.getElem?_toList]; exact hx
      · cases hx
    · have : b ≠ g := fun e => hbn (by simp [Value.ownBlock, e])
      simp [IH.add, this]

/-- What is asked of an element type's row of the table. -/
def ElemOk (P : Program) (ts te : TypeId) (T : Ty α) (bytes : Nat) : Prop :=
  ∃ i z, P.underlying ts = some (.slice te) ∧ P.info? te = some i ∧ i.zero = some z ∧ i.size = T.size ∧ i.bytes = bytes ∧ z.cells.size = T.size ∧ 0 < T.size

theorem ElemOk.of {P : Program} {ts te : TypeId} {z : Value} {size bytes : Nat} (hu : P.underlying ts = some (.slice te)) (h : (P.info? te).map (fun i => (i.zero, i.size, i.bytes)) = some (some z, size, bytes)) (hz : z.cells.size = size) (hs : 0 < size) (hT : T.size = size) : ElemOk P ts te T bytes := by
  obtain ⟨i, h1, h2, h3, h4⟩ := info_parts h
  exact ⟨i, z, hu, h1, h2, by rw [h3, hT], h4, by rw [hz, hT], by rw [hT]; exact hs⟩

/-- 'append(s, y)': s nil or a row of the call's own. -/
theorem wpList_append1 {P : Program} {ts te : TypeId} {bytes : Nat} (hE : ElemOk P ts te T bytes) {w0 : World} {ops : Array Oper} {rest : List Oper} {o : Oper} {a : Act} {Q : Exit → Act → World → Prop} (hgd : o.guard = none) (s x : Operand)
    (ho : o.op = .call { callee := .builtin .append, args := #[s, x], argTypes := #[ts, ts] }) (B : Nat) (v : Value) (l : List α) (hs : a.eval s = v) (hown : OwnS T te I w0 B v l)
    (y : α) (cs : List Value) (tb : TypeId) (hx : a.eval x = .slice (some ⟨w0.heap.size, 0, none⟩) 1 1) (hy : T.rd I cs y) (hbig : (l.length + 1) * bytes ≤ 140737488355328) (hl : l.length + 1 ≤ 9223372036854775807) (hB : B ≤ w0.heap.size)
    (h : ∀ v' w', OwnS T te I w' B v' (l ++ [y]) → w0.grownBy w' v.ownBlock → wpList P ops Q rest (a.put o.dst v') w') : wpList P ops Q (o :: rest) a (w0.alloc (.cells cs.toArray tb)) := by
  obtain ⟨i, z, h1, h2, h3, h4, h5, h6, h7⟩ := hE
  obtain ⟨xs, k1, k2⟩ := hown
  refine wpList_append_own (w0.alloc (.cells cs.toArray tb)) hgd s x ts ho B te i z T.size bytes h1 h2 h3 h4 h5 h6 h7 v l.length xs hs (k1.alloc _) ⟨w0.heap.size, 0, none⟩ 1 1 cs hx (by rw [T.len hy, Nat.one_mul])
    (fun j u hu => by rw [Addr.add_lit, Nat.zero_add, World.cell?_alloc_new]; simpa using hu) (T.one hy) (by unfold maxLen; omega) hbig (by simp; omega) (fun v' w' r1 r2 _ => h v' w' ⟨xs ++ cs, by rw [List.length_append]; exact r1, k2.append (LiesL.one hy)⟩ ?_)
  exact ⟨r2.os, r2.tape, r2.output, by have := r2.size; simp at this; omega, fun k hk hne => (r2.block k (by simp; omega) hne).trans (Below.heap_alloc _ _ _ hk)⟩
/-- 'append(s, y1, y2, ..)': s nil or a row of the call's own. -/
theorem wpList_appendL {P : Program} {ts te : TypeId} {bytes : Nat} (hE : ElemOk P ts te T bytes) {w0 : World} {ops : Array Oper} {rest : List Oper} {o : Oper} {a : Act} {Q : Exit → Act → World → Prop} (hgd : o.guard = none) (s x : Operand)
    (ho : o.op = .call { callee := .builtin .append, args := #[s, x], argTypes := #[ts, ts] }) (B : Nat) (v : Value) (l : List α) (hs : a.eval s = v) (hown : OwnS T te I w0 B v l)
    (ys : List α) (cs : List Value) (tb : TypeId) (hx : a.eval x = .slice (some ⟨w0.heap.size, 0, none⟩) ys.length ys.length) (hy : LiesL T I cs ys) (_hp : 0 < ys.length) (hbig : (l.length + ys.length) * bytes ≤ 140737488355328) (hl : l.length + ys.length ≤ 9223372036854775807) (hB : B ≤ w0.heap.size)
    (h : ∀ v' w', OwnS T te I w' B v' (l ++ ys) → w0.grownBy w' v.ownBlock → wpList P ops Q rest (a.put o.dst v') w') : wpList P ops Q (o :: rest) a (w0.alloc (.cells cs.toArray tb)) := by
  obtain ⟨i, z, h1, h2, h3, h4, h5, h6, h7⟩ := hE
  obtain ⟨xs, k1, k2⟩ := hown
  refine wpList_append_own (w0.alloc (.cells cs.toArray tb)) hgd s x ts ho B te i z T.size bytes h1 h2 h3 h4 h5 h6 h7 v l.length xs hs (k1.alloc _) ⟨w0.heap.size, 0, none⟩ ys.length ys.length cs hx hy.1
    (fun j u hu => by rw [Addr.add_lit, Nat.zero_add, World.cell?_alloc_new]; simpa using hu) hy.oneCell (by unfold maxLen; omega) hbig (by simp; omega) (fun v' w' r1 r2 _ => h v' w' ⟨xs ++ cs, by rw [List.length_append]; exact r1, k2.append hy⟩ ?_)
  exact ⟨r2.os, r2.tape, r2.output, by have := r2.size; simp at this; omega, fun k hk hne => (r2.block k (by simp; omega) hne).trans (Below.heap_alloc _ _ _ hk)⟩
end

theorem Below.own {α : Type} {T : Ty α} {E : TypeId} {I : IH} {w w0 w' : World} {v : Value} {l : List α} {B0 B : Nat} (h : Below B0 w w0) (hg : w0.grownBy w' v.ownBlock) (hown : OwnS T E I w0 B v l) (hB : B0 ≤ B) (hB' : B ≤ w0.heap.size) : Below B0 w w' :=
  h.grown hg (by omega) (fun _ hk => Nat.le_trans hB (hown.own_ge hk))
theorem Ok.own {α : Type} {T : Ty α} {E : TypeId} {I J : IH} {w0 w' : World} {v : Value} {l : List α} {B : Nat} (h : Ok J w0) (hg : w0.grownBy w' v.ownBlock) (hown : OwnS T E I w0 B v l) (hJ : ∀ b, B ≤ b → J b = none) : Ok J w' :=
  h.grown hg (fun g hk => hJ g (hown.own_ge hk))
end Go.Proofs.YtmapjaihkmjmmaaDoor
