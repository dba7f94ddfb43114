/-
  The law CatalogDigests: its walk.
-/
import Derived.Test.YtmapjaihkmjmmaaDoorLawC
import Derived.Test.YtmapjaihkmjmmaaDoorRefS
import Derived.Test.YtmapjaihkmjmmaaDoorInw
namespace Go.Proofs.YtmapjaihkmjmmaaDoor
open Go.RowKit

theorem run_neq_range (f t d f' t' d' : Bytes) (n n' : Int) (W : World) : (binOp .neq 37 (.agg #[S f, S t, .int .i64 n, S d]) (.agg #[S f', S t', .int .i64 n', S d'])).run Tryd.prog W = .ok (.bool (!decide (f = f' ∧ t = t' ∧ n = n' ∧ d = d'))) W := by
  rw [run_neq_of _ _ [(9, 0, false), (9, 1, false), (3, 2, false), (9, 3, false)] W (by kernel_rfl) (by kernel_rfl) (by kernel_rfl)]
  simp [go_sem]
  by_cases h1 : f = f' <;> by_cases h2 : t = t' <;> by_cases h3 : n = n' <;> by_cases h4 : d = d' <;> simp [h1, h2, h3, h4]

/-- What the region of the two calls leaves. -/
def sumR (f t : Bytes) (l : List Rec) : Array Value := #[S f, S t, .int .i64 l.length, S (sumP (recText l))]
abbrev dgL (va vb : Value) (n : Nat) (f t : Bytes) (sa sb : Value) (x : Nat × Nat) : List (Option Tmp × Value) :=
  [(some 30, va), (some 31, .pointer (some ⟨n, 0, none⟩)), (some 32, S f), (some 33, .pointer (some ⟨n, 1, none⟩)), (some 34, S t), (some 35, sa),
   (some 36, vb), (some 37, .pointer (some ⟨n, 0, none⟩)), (some 38, S f), (some 39, .pointer (some ⟨n, 1, none⟩)), (some 40, S t), (some 41, sb),
   (some 7, .pointer (some ⟨x.1, 0, none⟩)), (some 8, .pointer (some ⟨x.2, 0, none⟩)), (none, undef), (none, undef)]
structure DgC (w3 : World) (ra rb : Array Value) (x : Nat × Nat) (s : Array Bool) (w : World) : Prop where
  bel : Below w3.heap.size w3 w
  p7 : s.getD 12 false = true → w3.heap.size ≤ x.1 ∧ w.heap[x.1]? = some (.cells (if s.getD 14 false then ra else sumZero) 37 (0, 0))
  p8 : s.getD 13 false = true → w3.heap.size ≤ x.2 ∧ w.heap[x.2]? = some (.cells (if s.getD 15 false then rb else sumZero) 37 (0, 0))
  ne : s.getD 12 false = true → s.getD 13 false = true → x.1 ≠ x.2
  o14 : s.getD 14 false = true → s.getD 12 false = true
  o15 : s.getD 15 false = true → s.getD 13 false = true
theorem put_up {L : List (Option Tmp × Value)} {s : Array Bool} {a a' : Act} {i : Nat} {d : Option Tmp} {v : Value} (hp : ApartF L) (ha : a' = fillA L 0 s a) (hi : L[i]? = some (d, v)) (hun : s.getD i true = false) : a'.put d v = fillA L 0 (s.setIfInBounds i true) a := by
  have h := fill_set L 0 i s a d v hp hi (by rw [Nat.zero_add]; exact hun)
  rw [ha, h, Nat.zero_add]
theorem dg_apart {va vb : Value} {n : Nat} {f t : Bytes} {sa sb : Value} {x : Nat × Nat} : ApartF (dgL va vb n f t sa sb x) := by
  unfold ApartF
  simp
theorem ev_up {L : List (Option Tmp × Value)} {s : Array Bool} {a a' : Act} {i : Nat} {t : Tmp} {v : Value} (hp : ApartF L) (ha : a' = fillA L 0 s a) (hi : L[i]? = some (some t, v)) (hs : s.getD i false = true) (ht : t < a.tmps.size) : a'.tmps[t]?.getD undef = v := by
  have h := fill_eval L 0 i s a t v hp hi (by rw [Nat.zero_add]; exact hs) ht
  rw [← ha] at h
  simpa [Act.eval] using h
theorem ev_ne {L : List (Option Tmp × Value)} {s : Array Bool} {a a' : Act} {t : Tmp} (ha : a' = fillA L 0 s a) (h : ∀ p ∈ L, p.1 ≠ some t) : a'.tmps[t]?.getD undef = a.tmps[t]?.getD undef := by
  have h := fill_eval_ne L 0 s a t h
  rw [← ha] at h
  simpa [Act.eval] using h
theorem getD_un {s : Array Bool} {i : Nat} (h : s.getD i true = false) : s.getD i false = false := by
  rw [Array.getD_eq_getD_getElem?] at h ⊢
  cases hs : s[i]? with
  | none => rfl
  | some b => rw [hs] at h; simpa using h
theorem un_lt {s : Array Bool} {i : Nat} (h : s.getD i true = false) : i < s.size := by
  rcases Nat.lt_or_ge i s.size with h' | h'
  · exact h'
  · rw [Array.getD_eq_getD_getElem?, Array.getElem?_eq_none h'] at h; simp at h
theorem dg_ch12 {va vb : Value} {n : Nat} {f t : Bytes} {sa sb : Value} {x y : Nat × Nat} {s : Array Bool} {a : Act} (h : x.2 = y.2) (hun : s.getD 12 true = false) : fillA (dgL va vb n f t sa sb x) 0 s a = fillA (dgL va vb n f t sa sb y) 0 s a := by
  refine fill_congr _ _ _ _ _ rfl fun i hi => ?_
  rw [Nat.zero_add] at hi
  have hne : i ≠ 12 := fun e => by rw [e, getD_un hun] at hi; cases hi
  rcases i with _ | _ | _ | _ | _ | _ | _ | _ | _ | _ | _ | _ | _ | _ | _ | _ | i <;> first | rfl | (exact absurd rfl hne) | (simp [h])
theorem dg_ch13 {va vb : Value} {n : Nat} {f t : Bytes} {sa sb : Value} {x y : Nat × Nat} {s : Array Bool} {a : Act} (h : x.1 = y.1) (hun : s.getD 13 true = false) : fillA (dgL va vb n f t sa sb x) 0 s a = fillA (dgL va vb n f t sa sb y) 0 s a := by
  refine fill_congr _ _ _ _ _ rfl fun i hi => ?_
  rw [Nat.zero_add] at hi
  have hne : i ≠ 13 := fun e => by rw [e, getD_un hun] at hi; cases hi
  rcases i with _ | _ | _ | _ | _ | _ | _ | _ | _ | _ | _ | _ | _ | _ | _ | _ | i <;> first | rfl | (exact absurd rfl hne) | (simp [h])
theorem sumR_one (f t : Bytes) (l : List Rec) : (sumR f t l).all (·.oneCell') = true := by simp [sumR, Value.oneCell']
theorem getD_rep (n i : Nat) : (Array.replicate n false).getD i false = false := by
  rw [Array.getD_eq_getD_getElem?, Array.getElem?_replicate]
  split <;> rfl
theorem dgC_start (w3 : World) (ra rb : Array Value) : DgC w3 ra rb (0, 0) (Array.replicate 16 false) { w3 with drawn := w3.drawn + 1 } :=
  ⟨(Below.refl _ _).drew, fun h => (by rw [getD_rep] at h; cases h), fun h => (by rw [getD_rep] at h; cases h), fun h => (by rw [getD_rep] at h; cases h), fun h => (by rw [getD_rep] at h; cases h), fun h => (by rw [getD_rep] at h; cases h)⟩
theorem getD_set_lt {s : Array Bool} {i : Nat} (h : i < s.size) : (s.setIfInBounds i true).getD i false = true := by
  rw [Array.getD_eq_getD_getElem?, Array.getElem?_setIfInBounds_self_of_lt h]; rfl
/-- An operation that only lets the world grow. -/
theorem DgC.step {w3 w w' : World} {ra rb : Array Value} {x : Nat × Nat} {s : Array Bool} (h : DgC w3 ra rb x s w) (hb : Below w.heap.size w w') {i : Nat} (hi : i < 12) : DgC w3 ra rb x (s.setIfInBounds i true) w' := by
  have e : ∀ k, 12 ≤ k → (s.setIfInBounds i true).getD k false = s.getD k false := fun k hk => getD_set_ne false (by omega)
  refine ⟨h.bel.trans (hb.mono h.bel.size), fun q => ?_, fun q => ?_, fun q r => ?_, fun q => ?_, fun q => ?_⟩
  · rw [e 12 (by omega)] at q
    rw [e 14 (by omega)]
    obtain ⟨h1, h2⟩ := h.p7 q
    exact ⟨h1, by rw [hb.block _ (Array.getElem?_eq_some_iff.1 h2).1]; exact h2⟩
  · rw [e 13 (by omega)] at q
    rw [e 15 (by omega)]
    obtain ⟨h1, h2⟩ := h.p8 q
    exact ⟨h1, by rw [hb.block _ (Array.getElem?_eq_some_iff.1 h2).1]; exact h2⟩
  · rw [e 12 (by omega)] at q
    rw [e 13 (by omega)] at r
    exact h.ne q r
  · rw [e 14 (by omega)] at q
    rw [e 12 (by omega)]
    exact h.o14 q
  · rw [e 15 (by omega)] at q
    rw [e 13 (by omega)]
    exact h.o15 q

theorem DgC.new7 {w3 w : World} {ra rb : Array Value} {x : Nat × Nat} {s : Array Bool} (h : DgC w3 ra rb x s w) (hun : s.getD 12 true = false) (_ : 0 = 0) : DgC w3 ra rb (w.heap.size, x.2) (s.setIfInBounds 12 true) (w.alloc (.cells sumZero 37)) := by
  have e : ∀ k, k ≠ 12 → (s.setIfInBounds 12 true).getD k false = s.getD k false := fun k hk => getD_set_ne false (Ne.symm hk)
  have h14 : s.getD 14 false = false := by
    cases q : s.getD 14 false with
    | false => rfl
    | true => have := h.o14 q; rw [getD_un hun] at this; cases this
  refine ⟨h.bel.alloc h.bel.size _, fun _ => ⟨h.bel.size, ?_⟩, fun q => ?_, fun _ r => ?_, fun q => ?_, fun q => ?_⟩
  · rw [e 14 (by omega), h14]
    exact heap_alloc_new _ _
  · rw [e 13 (by omega)] at q
    rw [e 15 (by omega)]
    obtain ⟨h1, h2⟩ := h.p8 q
    exact ⟨h1, by rw [Below.heap_alloc _ _ _ (Array.getElem?_eq_some_iff.1 h2).1]; exact h2⟩
  · rw [e 13 (by omega)] at r
    have := (Array.getElem?_eq_some_iff.1 (h.p8 r).2).1
    show w.heap.size ≠ x.2
    omega
  · exact getD_set_lt (un_lt hun)
  · rw [e 15 (by omega)] at q
    rw [e 13 (by omega)]
    exact h.o15 q
theorem DgC.new8 {w3 w : World} {ra rb : Array Value} {x : Nat × Nat} {s : Array Bool} (h : DgC w3 ra rb x s w) (hun : s.getD 13 true = false) (_ : 0 = 0) : DgC w3 ra rb (x.1, w.heap.size) (s.setIfInBounds 13 true) (w.alloc (.cells sumZero 37)) := by
  have e : ∀ k, k ≠ 13 → (s.setIfInBounds 13 true).getD k false = s.getD k false := fun k hk => getD_set_ne false (Ne.symm hk)
  have h15 : s.getD 15 false = false := by
    cases q : s.getD 15 false with
    | false => rfl
    | true => have := h.o15 q; rw [getD_un hun] at this; cases this
  refine ⟨h.bel.alloc h.bel.size _, fun q => ?_, fun _ => ⟨h.bel.size, ?_⟩, fun q _ => ?_, fun q => ?_, fun q => ?_⟩
  · rw [e 12 (by omega)] at q
    rw [e 14 (by omega)]
    obtain ⟨h1, h2⟩ := h.p7 q
    exact ⟨h1, by rw [Below.heap_alloc _ _ _ (Array.getElem?_eq_some_iff.1 h2).1]; exact h2⟩
  · rw [e 15 (by omega), h15]
    exact heap_alloc_new _ _
  · rw [e 12 (by omega)] at q
    have := (Array.getElem?_eq_some_iff.1 (h.p7 q).2).1
    show x.1 ≠ w.heap.size
    omega
  · rw [e 14 (by omega)] at q
    rw [e 12 (by omega)]
    exact h.o14 q
  · exact getD_set_lt (un_lt hun)
theorem DgC.set7 {w3 w : World} {ra rb : Array Value} {x : Nat × Nat} {s : Array Bool} (h : DgC w3 ra rb x s w) (hun : s.getD 14 true = false) (h12 : s.getD 12 false = true) (_ : 0 = 0) : DgC w3 ra rb x (s.setIfInBounds 14 true) (w.setRow x.1 ra) := by
  have e : ∀ k, k ≠ 14 → (s.setIfInBounds 14 true).getD k false = s.getD k false := fun k hk => getD_set_ne false (Ne.symm hk)
  refine ⟨below_setRow h.bel (h.p7 h12).1 _, fun _ => ⟨(h.p7 h12).1, ?_⟩, fun q => ?_, fun q r => ?_, fun _ => ?_, fun q => ?_⟩
  · rw [getD_set_lt (un_lt hun), if_pos rfl]
    exact setRow_heap _ _ _ _ _ _ (h.p7 h12).2
  · rw [e 13 (by omega)] at q
    rw [e 15 (by omega)]
    obtain ⟨h1, h2⟩ := h.p8 q
    exact ⟨h1, by rw [setRow_other _ _ _ _ (Ne.symm (h.ne h12 q))]; exact h2⟩
  · rw [e 13 (by omega)] at r
    exact h.ne h12 r
  · rw [e 12 (by omega)]; exact h12
  · rw [e 15 (by omega)] at q
    rw [e 13 (by omega)]
    exact h.o15 q
theorem DgC.set8 {w3 w : World} {ra rb : Array Value} {x : Nat × Nat} {s : Array Bool} (h : DgC w3 ra rb x s w) (hun : s.getD 15 true = false) (h13 : s.getD 13 false = true) (_ : 0 = 0) : DgC w3 ra rb x (s.setIfInBounds 15 true) (w.setRow x.2 rb) := by
  have e : ∀ k, k ≠ 15 → (s.setIfInBounds 15 true).getD k false = s.getD k false := fun k hk => getD_set_ne false (Ne.symm hk)
  refine ⟨below_setRow h.bel (h.p8 h13).1 _, fun q => ?_, fun _ => ⟨(h.p8 h13).1, ?_⟩, fun q r => ?_, fun q => ?_, fun _ => ?_⟩
  · rw [e 12 (by omega)] at q
    rw [e 14 (by omega)]
    obtain ⟨h1, h2⟩ := h.p7 q
    exact ⟨h1, by rw [setRow_other _ _ _ _ (h.ne q h13)]; exact h2⟩
  · rw [getD_set_lt (un_lt hun), if_pos rfl]
    exact setRow_heap _ _ _ _ _ _ (h.p8 h13).2
  · rw [e 12 (by omega)] at q
    exact h.ne q h13
  · rw [e 14 (by omega)] at q
    rw [e 12 (by omega)]
    exact h.o14 q
  · rw [e 13 (by omega)]; exact h13

theorem DgC.done {w3 w : World} {ra rb : Array Value} {x : Nat × Nat} {s : Array Bool} (h : DgC w3 ra rb x s w) (h12 : s.getD 12 false = true) (h13 : s.getD 13 false = true) (h14 : s.getD 14 false = true) (h15 : s.getD 15 false = true) :
    Below w3.heap.size w3 w ∧ w.heap[x.1]? = some (.cells ra 37 (0, 0)) ∧ w.heap[x.2]? = some (.cells rb 37 (0, 0)) := by
  have h1 := (h.p7 h12).2
  have h2 := (h.p8 h13).2
  rw [h14, if_pos rfl] at h1
  rw [h15, if_pos rfl] at h2
  exact ⟨h.bel, h1, h2⟩
theorem rgAt {w : World} {b : Nat} {f t : Bytes} {l : List Rec} {ty : TypeId} {fr : Nat × Nat} (h : w.heap[b]? = some (.cells (sumR f t l) ty fr)) :
    w.cell? ⟨b, 0, none⟩ = some (S f) ∧ w.cell? ⟨b, 1, none⟩ = some (S t) ∧ w.cell? ⟨b, 2, none⟩ = some (.int .i64 l.length) ∧ w.cell? ⟨b, 3, none⟩ = some (S (sumP (recText l))) :=
  ⟨cell_of_row _ _ 0 _ _ _ h, cell_of_row _ _ 1 _ _ _ h, cell_of_row _ _ 2 _ _ _ h, cell_of_row _ _ 3 _ _ _ h⟩

abbrev dqL (va vb : Value) (n : Nat) (f t : Bytes) (sm : Bool) (x : Value × Value × IH) : List (Option Tmp × Value) :=
  [(some 42, va), (some 43, .pointer (some ⟨n, 0, none⟩)), (some 44, S f), (some 45, .pointer (some ⟨n, 1, none⟩)), (some 46, S t), (some 47, x.1),
   (some 48, vb), (some 49, .pointer (some ⟨n, 0, none⟩)), (some 50, S f), (some 51, .pointer (some ⟨n, 1, none⟩)), (some 52, S t), (some 53, x.2.1), (some 54, .bool sm), (some 9, .bool sm)]
structure DqC (I : IH) (w5 : World) (ra rb : List Rec) (x : Value × Value × IH) (s : Array Bool) (w : World) : Prop where
  bel : Below w5.heap.size w5 w
  ok : Ok x.2.2 w
  keep : ∀ b c, I b = some c → x.2.2 b = some c
  p5 : s.getD 5 false = true → RdS tRec x.2.2 x.1 ra
  p11 : s.getD 11 false = true → RdS tRec x.2.2 x.2.1 rb
  o11 : s.getD 11 false = true → s.getD 5 false = true
theorem dqC_start {I : IH} {w5 : World} (h : Ok I w5) (ra rb : List Rec) : DqC I w5 ra rb (undef, undef, I) (Array.replicate 14 false) { w5 with drawn := w5.drawn + 1 } :=
  ⟨(Below.refl _ _).drew, h, fun _ _ h => h, fun h => (by rw [getD_rep] at h; cases h), fun h => (by rw [getD_rep] at h; cases h), fun h => (by rw [getD_rep] at h; cases h)⟩
theorem DqC.step {I : IH} {w5 w w' : World} {ra rb : List Rec} {x : Value × Value × IH} {s : Array Bool} (h : DqC I w5 ra rb x s w) (hb : Below w.heap.size w w') {i : Nat} (h5 : i ≠ 5) (h11 : i ≠ 11) : DqC I w5 ra rb x (s.setIfInBounds i true) w' :=
  ⟨h.bel.trans (hb.mono h.bel.size), h.ok.below (Nat.le_refl _) hb, h.keep, fun q => h.p5 (by rwa [getD_set_ne false h5] at q), fun q => h.p11 (by rwa [getD_set_ne false h11] at q), fun q => by
    rw [getD_set_ne false h11] at q
    rw [getD_set_ne false h5]
    exact h.o11 q⟩
theorem DqC.in5 {I I6 : IH} {w5 w w' : World} {ra rb : List Rec} {x : Value × Value × IH} {s : Array Bool} {v6 : Value} (h : DqC I w5 ra rb x s w) (hun : s.getD 5 true = false) (hb : Below w.heap.size w w') (hk : ∀ b c, x.2.2 b = some c → I6 b = some c) (hok : Ok I6 w') (hr : RdS tRec I6 v6 ra) : DqC I w5 ra rb (v6, x.2.1, I6) (s.setIfInBounds 5 true) w' :=
  ⟨h.bel.trans (hb.mono h.bel.size), hok, fun b c q => hk b c (h.keep b c q), fun _ => hr, fun q => (by
    rw [getD_set_ne false (by decide)] at q
    have := h.o11 q
    rw [getD_un hun] at this
    cases this), fun _ => getD_set_lt (un_lt hun)⟩
theorem DqC.in11 {I I6 : IH} {w5 w w' : World} {ra rb : List Rec} {x : Value × Value × IH} {s : Array Bool} {v6 : Value} (h : DqC I w5 ra rb x s w) (_ : s.getD 11 true = false) (h5 : s.getD 5 false = true) (hb : Below w.heap.size w w') (hk : ∀ b c, x.2.2 b = some c → I6 b = some c) (hok : Ok I6 w') (hr : RdS tRec I6 v6 rb) : DqC I w5 ra rb (x.1, v6, I6) (s.setIfInBounds 11 true) w' :=
  ⟨h.bel.trans (hb.mono h.bel.size), hok, fun b c q => hk b c (h.keep b c q), fun _ => (h.p5 h5).mono hk, fun _ => hr, fun _ => by
    rw [getD_set_ne false (by decide)]; exact h5⟩
theorem dq_apart {va vb : Value} {n : Nat} {f t : Bytes} {sm : Bool} {x : Value × Value × IH} : ApartF (dqL va vb n f t sm x) := by
  unfold ApartF
  simp
theorem dq_ch5 {va vb : Value} {n : Nat} {f t : Bytes} {sm : Bool} {x y : Value × Value × IH} {s : Array Bool} {a : Act} (h : x.2.1 = y.2.1) (hun : s.getD 5 true = false) : fillA (dqL va vb n f t sm x) 0 s a = fillA (dqL va vb n f t sm y) 0 s a := by
  refine fill_congr _ _ _ _ _ rfl fun i hi => ?_
  rw [Nat.zero_add] at hi
  have hne : i ≠ 5 := fun e => by rw [e, getD_un hun] at hi; cases hi
  rcases i with _ | _ | _ | _ | _ | _ | _ | _ | _ | _ | _ | _ | _ | _ | i <;> first | rfl | (exact absurd rfl hne) | (simp [h])
theorem dq_ch11 {va vb : Value} {n : Nat} {f t : Bytes} {sm : Bool} {x y : Value × Value × IH} {s : Array Bool} {a : Act} (h : x.1 = y.1) (hun : s.getD 11 true = false) : fillA (dqL va vb n f t sm x) 0 s a = fillA (dqL va vb n f t sm y) 0 s a := by
  refine fill_congr _ _ _ _ _ rfl fun i hi => ?_
  rw [Nat.zero_add] at hi
  have hne : i ≠ 11 := fun e => by rw [e, getD_un hun] at hi; cases hi
  rcases i with _ | _ | _ | _ | _ | _ | _ | _ | _ | _ | _ | _ | _ | _ | i <;> first | rfl | (exact absurd rfl hne) | (simp [h])
theorem run_eql_range (f t d f' t' d' : Bytes) (n n' : Int) (W : World) : (binOp .eql 37 (.agg #[S f, S t, .int .i64 n, S d]) (.agg #[S f', S t', .int .i64 n', S d'])).run Tryd.prog W = .ok (.bool (decide (f = f' ∧ t = t' ∧ n = n' ∧ d = d'))) W := by
  rw [run_eql_of _ _ [(9, 0, false), (9, 1, false), (3, 2, false), (9, 3, false)] W (by kernel_rfl) (by kernel_rfl) (by kernel_rfl)]
  simp [go_sem]
  by_cases h1 : f = f' <;> by_cases h2 : t = t' <;> by_cases h3 : n = n' <;> by_cases h4 : d = d' <;> simp [h1, h2, h3, h4]

set_option maxRecDepth 100000 in
set_option maxHeartbeats 2000000 in
theorem law_CatalogDigests (I : IH) (hI : Glob I) (va vb : Value) (la lb : List Rec) (hva : RdS tRec I va la) (hla : ∀ r ∈ la, r.Wf) (hvb : RdS tRec I vb lb) (hlb : ∀ r ∈ lb, r.Wf) (f t : Bytes) (w : World) (hw : Ok I w) :
    Calls Tryd.prog 6 #[va, vb, .agg #[S f, S t]] w fun e w' => e = .returned (.bool true) ∧ Below w.heap.size w w' := by
  obtain ⟨ao, cap, rfl, hcap, hcm, _⟩ := id hva
  obtain ⟨ao2, cap2, rfl, hcap2, hcm2, _⟩ := id hvb
  have Hva := Lib.hid hva; clear hva
  have Hla := Lib.hid hla; clear hla
  have Hvb := Lib.hid hvb; clear hvb
  have Hlb := Lib.hid hlb; clear hlb
  go_enter Tryd.func6, Tryd.ntmps6
  go_wp2_with fail
  refine (law_alive I hI _ (hw.alloc _)).mono ?_
  rintro e w1 ⟨rfl, hb1⟩
  have hok1 : Ok I w1 := (hw.alloc _).below (Nat.le_refl _) hb1
  go_wp2_with fail
  refine (ref57_Right I _ la Hva.out Hla.out _ hok1).mono ?_
  rintro e w2 ⟨rfl, hb2⟩
  have hok2 : Ok I w2 := hok1.below (Nat.le_refl _) hb2
  have hb2' := hb1.trans (hb2.mono hb1.size)
  rcases right_cases la with h1 | h1
  · obtain ⟨hna, hvala, hra⟩ := right_one h1
    rw [h1]
    have Hvala := Lib.hid hvala
    have Hra := Lib.hid hra
    clear hvala hra h1
    go_wp2_with fail
    refine (ref57_Right I _ lb Hvb.out Hlb.out _ hok2).mono ?_
    rintro e w3 ⟨rfl, hb3⟩
    have hok3 : Ok I w3 := hok2.below (Nat.le_refl _) hb3
    have hb3' := hb2'.trans (hb3.mono hb2'.size)
    have c0 : w3.cell? ⟨w.heap.size, 0, none⟩ = some (S f) := by rw [hb3'.cell (by simp)]; simp
    have c1 : w3.cell? ⟨w.heap.size, 1, none⟩ = some (S t) := by rw [hb3'.cell (by simp)]; simp
    have Hb3 := Lib.hid (((Below.refl _ _).alloc (Nat.le_refl _) _).trans (hb3'.mono (by simp)))
    clear hb1 hb2 hb2' hok1 hok2 hb3 hb3'
    rcases right_cases lb with h2 | h2
    · obtain ⟨hnb, hvalb, hrb⟩ := right_one h2
      rw [h2]
      have Hvalb := Lib.hid hvalb
      have Hrb := Lib.hid hrb
      clear hvalb hrb h2
      cases d1 : decide (100 < wrap64 ((f.length : Int) + (t.length : Int)))
      · have hsA : ∀ (W : World), Ok I W → Calls Tryd.prog 18 #[.slice ao la.length cap, S f, S t] W fun e w' => e = .returned (sumV f t (recIn la f t)) ∧ Below W.heap.size W w' := fun W hW => cat_Summary I hI _ la Hva.out Hla.out (by omega) Hra.out Hvala.out f t W hW
        have hsB : ∀ (W : World), Ok I W → Calls Tryd.prog 18 #[.slice ao2 lb.length cap2, S f, S t] W fun e w' => e = .returned (sumV f t (recIn lb f t)) ∧ Below W.heap.size W w' := fun W hW => cat_Summary I hI _ lb Hvb.out Hlb.out (by omega) Hrb.out Hvalb.out f t W hW
        have HsA := Lib.hid hsA
        have HsB := Lib.hid hsB
        clear hsA hsB
        go_wp2_with fail
        refine wp_region_fill (X := Nat × Nat) (dgL (.slice ao la.length cap) (.slice ao2 lb.length cap2) w.heap.size f t (sumV f t (recIn la f t)) (sumV f t (recIn lb f t))) (DgC w3 (sumR f t (recIn la f t)) (sumR f t (recIn lb f t))) (by kernel_rfl) (by kernel_rfl) ?_ ?_ ?_
        · exact ⟨(0, 0), dgC_start w3 _ _⟩
        · rintro x s a' w' i hsz ha hC hi
          obtain ⟨hun, oi, hoi, hall⟩ := mem_ready.1 hi
          rcases i with _ | _ | _ | _ | _ | _ | _ | _ | _ | _ | _ | _ | _ | _ | _ | _ | i
          rotate_left 16
          · simp at hoi
          all_goals
            have hoj := hoi
            simp at hoi
            subst hoi
            simp [Region.binds] at hall
          · have e0 : a'.tmps[0]?.getD undef = .slice ao la.length cap := ev_ne ha (by simp)
            refine wpOp_step hoj (fun K' hK => ?_)
            rw [if_pos (by rfl)]
            unfold Oper.wp
            simp [go_sem, e0, Oper.upon]
            exact hK _ _ ⟨x, put_up (d := some 30) (v := .slice ao la.length cap) dg_apart ha rfl hun, hC.step (Below.refl _ _) (by omega)⟩
          · have e5 : a'.tmps[5]?.getD undef = .pointer (some ⟨w.heap.size, 0, none⟩) := ev_ne ha (by simp)
            refine wpOp_step hoj (fun K' hK => ?_)
            rw [if_pos (by rfl)]
            unfold Oper.wp
            simp [go_sem, e5, Oper.upon]
            exact hK _ _ ⟨x, put_up (d := some 31) (v := .pointer (some ⟨w.heap.size, 0, none⟩)) dg_apart ha rfl hun, hC.step (Below.refl _ _) (by omega)⟩
          · have e31 : a'.tmps[31]?.getD undef = .pointer (some ⟨w.heap.size, 0, none⟩) := ev_up (i := 1) dg_apart ha rfl (by simpa using hall) (by simp)
            have c0' := cell_thru hC.bel c0
            have c1' := cell_thru hC.bel c1
            refine wpOp_step hoj (fun K' hK => ?_)
            rw [if_pos (by rfl)]
            unfold Oper.wp
            simp [go_sem, e31, c0', Oper.upon]
            exact hK _ _ ⟨x, put_up (d := some 32) (v := S f) dg_apart ha rfl hun, hC.step (Below.refl _ _) (by omega)⟩
          · have e5 : a'.tmps[5]?.getD undef = .pointer (some ⟨w.heap.size, 0, none⟩) := ev_ne ha (by simp)
            refine wpOp_step hoj (fun K' hK => ?_)
            rw [if_pos (by rfl)]
            unfold Oper.wp
            simp [go_sem, e5, Oper.upon]
            exact hK _ _ ⟨x, put_up (d := some 33) (v := .pointer (some ⟨w.heap.size, 1, none⟩)) dg_apart ha rfl hun, hC.step (Below.refl _ _) (by omega)⟩
          · have e33 : a'.tmps[33]?.getD undef = .pointer (some ⟨w.heap.size, 1, none⟩) := ev_up (i := 3) dg_apart ha rfl (by simpa using hall) (by simp)
            have c0' := cell_thru hC.bel c0
            have c1' := cell_thru hC.bel c1
            refine wpOp_step hoj (fun K' hK => ?_)
            rw [if_pos (by rfl)]
            unfold Oper.wp
            simp [go_sem, e33, c1', Oper.upon]
            exact hK _ _ ⟨x, put_up (d := some 34) (v := S t) dg_apart ha rfl hun, hC.step (Below.refl _ _) (by omega)⟩
          · have e30 : a'.tmps[30]?.getD undef = .slice ao la.length cap := ev_up (i := 0) dg_apart ha rfl (by simpa using hall.1) (by simp)
            have e32 : a'.tmps[32]?.getD undef = S f := ev_up (i := 2) dg_apart ha rfl (by simpa using hall.2.1) (by simp)
            have e34 : a'.tmps[34]?.getD undef = S t := ev_up (i := 4) dg_apart ha rfl (by simpa using hall.2.2) (by simp)
            refine wpOp_step hoj (fun K' hK => ?_)
            rw [if_pos (by rfl)]
            unfold Oper.wp
            simp [go_sem, e30, e32, e34, Oper.upon]
            refine (HsA.out _ (hok3.below (Nat.le_refl _) hC.bel)).mono ?_
            rintro e w6 ⟨rfl, hb6⟩
            exact hK _ _ ⟨x, put_up (d := some 35) (v := sumV f t (recIn la f t)) dg_apart ha rfl hun, hC.step hb6 (by omega)⟩
          · have e1 : a'.tmps[1]?.getD undef = .slice ao2 lb.length cap2 := ev_ne ha (by simp)
            refine wpOp_step hoj (fun K' hK => ?_)
            rw [if_pos (by rfl)]
            unfold Oper.wp
            simp [go_sem, e1, Oper.upon]
            exact hK _ _ ⟨x, put_up (d := some 36) (v := .slice ao2 lb.length cap2) dg_apart ha rfl hun, hC.step (Below.refl _ _) (by omega)⟩
          · have e5 : a'.tmps[5]?.getD undef = .pointer (some ⟨w.heap.size, 0, none⟩) := ev_ne ha (by simp)
            refine wpOp_step hoj (fun K' hK => ?_)
            rw [if_pos (by rfl)]
            unfold Oper.wp
            simp [go_sem, e5, Oper.upon]
            exact hK _ _ ⟨x, put_up (d := some 37) (v := .pointer (some ⟨w.heap.size, 0, none⟩)) dg_apart ha rfl hun, hC.step (Below.refl _ _) (by omega)⟩
          · have e37 : a'.tmps[37]?.getD undef = .pointer (some ⟨w.heap.size, 0, none⟩) := ev_up (i := 7) dg_apart ha rfl (by simpa using hall) (by simp)
            have c0' := cell_thru hC.bel c0
            have c1' := cell_thru hC.bel c1
            refine wpOp_step hoj (fun K' hK => ?_)
            rw [if_pos (by rfl)]
            unfold Oper.wp
            simp [go_sem, e37, c0', Oper.upon]
            exact hK _ _ ⟨x, put_up (d := some 38) (v := S f) dg_apart ha rfl hun, hC.step (Below.refl _ _) (by omega)⟩
          · have e5 : a'.tmps[5]?.getD undef = .pointer (some ⟨w.heap.size, 0, none⟩) := ev_ne ha (by simp)
            refine wpOp_step hoj (fun K' hK => ?_)
            rw [if_pos (by rfl)]
            unfold Oper.wp
            simp [go_sem, e5, Oper.upon]
            exact hK _ _ ⟨x, put_up (d := some 39) (v := .pointer (some ⟨w.heap.size, 1, none⟩)) dg_apart ha rfl hun, hC.step (Below.refl _ _) (by omega)⟩
          · have e39 : a'.tmps[39]?.getD undef = .pointer (some ⟨w.heap.size, 1, none⟩) := ev_up (i := 9) dg_apart ha rfl (by simpa using hall) (by simp)
            have c0' := cell_thru hC.bel c0
            have c1' := cell_thru hC.bel c1
            refine wpOp_step hoj (fun K' hK => ?_)
            rw [if_pos (by rfl)]
            unfold Oper.wp
            simp [go_sem, e39, c1', Oper.upon]
            exact hK _ _ ⟨x, put_up (d := some 40) (v := S t) dg_apart ha rfl hun, hC.step (Below.refl _ _) (by omega)⟩
          · have e36 : a'.tmps[36]?.getD undef = .slice ao2 lb.length cap2 := ev_up (i := 6) dg_apart ha rfl (by simpa using hall.1) (by simp)
            have e38 : a'.tmps[38]?.getD undef = S f := ev_up (i := 8) dg_apart ha rfl (by simpa using hall.2.1) (by simp)
            have e40 : a'.tmps[40]?.getD undef = S t := ev_up (i := 10) dg_apart ha rfl (by simpa using hall.2.2.1) (by simp)
            refine wpOp_step hoj (fun K' hK => ?_)
            rw [if_pos (by rfl)]
            unfold Oper.wp
            simp [go_sem, e36, e38, e40, Oper.upon]
            refine (HsB.out _ (hok3.below (Nat.le_refl _) hC.bel)).mono ?_
            rintro e w6 ⟨rfl, hb6⟩
            exact hK _ _ ⟨x, put_up (d := some 41) (v := sumV f t (recIn lb f t)) dg_apart ha rfl hun, hC.step hb6 (by omega)⟩
          · have ha := ha.trans (dg_ch12 (x := x) (y := (w'.heap.size, x.2)) rfl hun)
            refine wpOp_step hoj (fun K' hK => ?_)
            rw [if_pos (by rfl)]
            unfold Oper.wp
            simp [go_sem, Oper.upon]
            exact hK _ _ ⟨(w'.heap.size, x.2), put_up (d := some 7) (v := .pointer (some ⟨w'.heap.size, 0, none⟩)) dg_apart ha rfl hun, hC.new7 hun (by omega)⟩
          · have ha := ha.trans (dg_ch13 (x := x) (y := (x.1, w'.heap.size)) rfl hun)
            refine wpOp_step hoj (fun K' hK => ?_)
            rw [if_pos (by rfl)]
            unfold Oper.wp
            simp [go_sem, Oper.upon]
            exact hK _ _ ⟨(x.1, w'.heap.size), put_up (d := some 8) (v := .pointer (some ⟨w'.heap.size, 0, none⟩)) dg_apart ha rfl hun, hC.new8 hun (by omega)⟩
          · have e7 : a'.tmps[7]?.getD undef = .pointer (some ⟨x.1, 0, none⟩) := ev_up (i := 12) dg_apart ha rfl (by simpa using hall.1) (by simp)
            have e35 : a'.tmps[35]?.getD undef = sumV f t (recIn la f t) := ev_up (i := 5) dg_apart ha rfl (by simpa using hall.2.1) (by simp)
            have hst := (hC.p7 (by simpa using hall.1)).2
            rw [if_neg (by rw [getD_un hun]; simp)] at hst
            refine wpOp_step hoj (fun K' hK => ?_)
            rw [if_pos (by rfl)]
            refine wp_store_row 37 _ _ rfl x.1 (sumR f t (recIn la f t)) (by simp [Act.eval, e7]) (by simp [Act.eval, e35, sumR]) 37 sumZero hst (by kernel_rfl) rfl (sumR_one _ _ _) ?_
            exact hK _ _ ⟨x, put_up (d := none) (v := undef) dg_apart ha rfl hun, hC.set7 hun (by simpa using hall.1) (by omega)⟩
          · have e8 : a'.tmps[8]?.getD undef = .pointer (some ⟨x.2, 0, none⟩) := ev_up (i := 13) dg_apart ha rfl (by simpa using hall.1) (by simp)
            have e41 : a'.tmps[41]?.getD undef = sumV f t (recIn lb f t) := ev_up (i := 11) dg_apart ha rfl (by simpa using hall.2.1) (by simp)
            have hst := (hC.p8 (by simpa using hall.1)).2
            rw [if_neg (by rw [getD_un hun]; simp)] at hst
            refine wpOp_step hoj (fun K' hK => ?_)
            rw [if_pos (by rfl)]
            refine wp_store_row 37 _ _ rfl x.2 (sumR f t (recIn lb f t)) (by simp [Act.eval, e8]) (by simp [Act.eval, e41, sumR]) 37 sumZero hst (by kernel_rfl) rfl (sumR_one _ _ _) ?_
            exact hK _ _ ⟨x, put_up (d := none) (v := undef) dg_apart ha rfl hun, hC.set8 hun (by simpa using hall.1) (by omega)⟩
        · rintro ⟨b7, b8⟩ s a' w' hup ha hC
          have hC := hC.done (hup 12 (by decide)) (hup 13 (by decide)) (hup 14 (by decide)) (hup 15 (by decide))
          rw [fill_all _ _ _ _ (fun i hi => by rw [Nat.zero_add]; exact hup i (by simpa using hi))] at ha
          subst ha
          simp only [fillAll, Act.put]
          obtain ⟨hbel, hA, hB⟩ := hC
          have c0 := cell_thru hbel c0
          have c1 := cell_thru hbel c1
          obtain ⟨p0, p1, p2, p3⟩ := rgAt hA
          obtain ⟨q0, q1, q2, q3⟩ := rgAt hB
          go_wp2_with fail
          have hokb : Ok I w' := hok3.below (Nat.le_refl _) hbel
          refine wp_region_fill (X := Value × Value × IH) (dqL (.slice ao la.length cap) (.slice ao2 lb.length cap2) w.heap.size f t (decide (recIn la f t = recIn lb f t))) (DqC I w' (recIn la f t) (recIn lb f t)) (by kernel_rfl) (by kernel_rfl) ?_ ?_ ?_
          · exact ⟨(undef, undef, I), dqC_start hokb _ _⟩
          · rintro x s a2 w2 i hsz ha hC hi
            obtain ⟨hun, oi, hoi, hall⟩ := mem_ready.1 hi
            rcases i with _ | _ | _ | _ | _ | _ | _ | _ | _ | _ | _ | _ | _ | _ | i
            rotate_left 14
            · simp at hoi
            all_goals
              have hoj := hoi
              simp at hoi
              subst hoi
              simp [Region.binds] at hall
            · have e0 : a2.tmps[0]?.getD undef = .slice ao la.length cap := ev_ne ha (by simp)
              refine wpOp_step hoj (fun K' hK => ?_)
              rw [if_pos (by rfl)]
              unfold Oper.wp
              simp [go_sem, e0, Oper.upon]
              exact hK _ _ ⟨x, put_up (d := some 42) (v := .slice ao la.length cap) dq_apart ha rfl hun, hC.step (Below.refl _ _) (by decide) (by decide)⟩
            · have e5 : a2.tmps[5]?.getD undef = .pointer (some ⟨w.heap.size, 0, none⟩) := ev_ne ha (by simp)
              refine wpOp_step hoj (fun K' hK => ?_)
              rw [if_pos (by rfl)]
              unfold Oper.wp
              simp [go_sem, e5, Oper.upon]
              exact hK _ _ ⟨x, put_up (d := some 43) (v := .pointer (some ⟨w.heap.size, 0, none⟩)) dq_apart ha rfl hun, hC.step (Below.refl _ _) (by decide) (by decide)⟩
            · have e43 : a2.tmps[43]?.getD undef = .pointer (some ⟨w.heap.size, 0, none⟩) := ev_up (i := 1) dq_apart ha rfl (by simpa using hall) (by simp)
              have c0' := cell_thru hC.bel c0
              have c1' := cell_thru hC.bel c1
              refine wpOp_step hoj (fun K' hK => ?_)
              rw [if_pos (by rfl)]
              unfold Oper.wp
              simp [go_sem, e43, c0', Oper.upon]
              exact hK _ _ ⟨x, put_up (d := some 44) (v := S f) dq_apart ha rfl hun, hC.step (Below.refl _ _) (by decide) (by decide)⟩
            · have e5 : a2.tmps[5]?.getD undef = .pointer (some ⟨w.heap.size, 0, none⟩) := ev_ne ha (by simp)
              refine wpOp_step hoj (fun K' hK => ?_)
              rw [if_pos (by rfl)]
              unfold Oper.wp
              simp [go_sem, e5, Oper.upon]
              exact hK _ _ ⟨x, put_up (d := some 45) (v := .pointer (some ⟨w.heap.size, 1, none⟩)) dq_apart ha rfl hun, hC.step (Below.refl _ _) (by decide) (by decide)⟩
            · have e45 : a2.tmps[45]?.getD undef = .pointer (some ⟨w.heap.size, 1, none⟩) := ev_up (i := 3) dq_apart ha rfl (by simpa using hall) (by simp)
              have c0' := cell_thru hC.bel c0
              have c1' := cell_thru hC.bel c1
              refine wpOp_step hoj (fun K' hK => ?_)
              rw [if_pos (by rfl)]
              unfold Oper.wp
              simp [go_sem, e45, c1', Oper.upon]
              exact hK _ _ ⟨x, put_up (d := some 46) (v := S t) dq_apart ha rfl hun, hC.step (Below.refl _ _) (by decide) (by decide)⟩
            · have e42 : a2.tmps[42]?.getD undef = .slice ao la.length cap := ev_up (i := 0) dq_apart ha rfl (by simpa using hall.1) (by simp)
              have e44 : a2.tmps[44]?.getD undef = S f := ev_up (i := 2) dq_apart ha rfl (by simpa using hall.2.1) (by simp)
              have e46 : a2.tmps[46]?.getD undef = S t := ev_up (i := 4) dq_apart ha rfl (by simpa using hall.2.2) (by simp)
              refine wpOp_step hoj (fun K' hK => ?_)
              rw [if_pos (by rfl)]
              unfold Oper.wp
              simp [go_sem, e42, e44, e46, Oper.upon]
              refine (ref57_In x.2.2 _ la (Hva.out.mono hC.keep) Hla.out (by omega) f t _ hC.ok).mono ?_
              rintro e w6 ⟨v6, I6, rfl, hb6, hx6, hok6, hr6⟩
              have ha := ha.trans (dq_ch5 (x := x) (y := (v6, x.2.1, I6)) rfl hun)
              exact hK _ _ ⟨(v6, x.2.1, I6), put_up (d := some 47) (v := v6) dq_apart ha rfl hun, hC.in5 hun hb6 (hx6.keep hC.ok (Nat.le_refl _)) hok6 hr6⟩
            · have e1 : a2.tmps[1]?.getD undef = .slice ao2 lb.length cap2 := ev_ne ha (by simp)
              refine wpOp_step hoj (fun K' hK => ?_)
              rw [if_pos (by rfl)]
              unfold Oper.wp
              simp [go_sem, e1, Oper.upon]
              exact hK _ _ ⟨x, put_up (d := some 48) (v := .slice ao2 lb.length cap2) dq_apart ha rfl hun, hC.step (Below.refl _ _) (by decide) (by decide)⟩
            · have e5 : a2.tmps[5]?.getD undef = .pointer (some ⟨w.heap.size, 0, none⟩) := ev_ne ha (by simp)
              refine wpOp_step hoj (fun K' hK => ?_)
              rw [if_pos (by rfl)]
              unfold Oper.wp
              simp [go_sem, e5, Oper.upon]
              exact hK _ _ ⟨x, put_up (d := some 49) (v := .pointer (some ⟨w.heap.size, 0, none⟩)) dq_apart ha rfl hun, hC.step (Below.refl _ _) (by decide) (by decide)⟩
            · have e49 : a2.tmps[49]?.getD undef = .pointer (some ⟨w.heap.size, 0, none⟩) := ev_up (i := 7) dq_apart ha rfl (by simpa using hall) (by simp)
              have c0' := cell_thru hC.bel c0
              have c1' := cell_thru hC.bel c1
              refine wpOp_step hoj (fun K' hK => ?_)
              rw [if_pos (by rfl)]
              unfold Oper.wp
              simp [go_sem, e49, c0', Oper.upon]
              exact hK _ _ ⟨x, put_up (d := some 50) (v := S f) dq_apart ha rfl hun, hC.step (Below.refl _ _) (by decide) (by decide)⟩
            · have e5 : a2.tmps[5]?.getD undef = .pointer (some ⟨w.heap.size, 0, none⟩) := ev_ne ha (by simp)
              refine wpOp_step hoj (fun K' hK => ?_)
              rw [if_pos (by rfl)]
              unfold Oper.wp
              simp [go_sem, e5, Oper.upon]
              exact hK _ _ ⟨x, put_up (d := some 51) (v := .pointer (some ⟨w.heap.size, 1, none⟩)) dq_apart ha rfl hun, hC.step (Below.refl _ _) (by decide) (by decide)⟩
            · have e51 : a2.tmps[51]?.getD undef = .pointer (some ⟨w.heap.size, 1, none⟩) := ev_up (i := 9) dq_apart ha rfl (by simpa using hall) (by simp)
              have c0' := cell_thru hC.bel c0
              have c1' := cell_thru hC.bel c1
              refine wpOp_step hoj (fun K' hK => ?_)
              rw [if_pos (by rfl)]
              unfold Oper.wp
              simp [go_sem, e51, c1', Oper.upon]
              exact hK _ _ ⟨x, put_up (d := some 52) (v := S t) dq_apart ha rfl hun, hC.step (Below.refl _ _) (by decide) (by decide)⟩
            · have e48 : a2.tmps[48]?.getD undef = .slice ao2 lb.length cap2 := ev_up (i := 6) dq_apart ha rfl (by simpa using hall.1) (by simp)
              have e50 : a2.tmps[50]?.getD undef = S f := ev_up (i := 8) dq_apart ha rfl (by simpa using hall.2.1) (by simp)
              have e52 : a2.tmps[52]?.getD undef = S t := ev_up (i := 10) dq_apart ha rfl (by simpa using hall.2.2.1) (by simp)
              refine wpOp_step hoj (fun K' hK => ?_)
              rw [if_pos (by rfl)]
              unfold Oper.wp
              simp [go_sem, e48, e50, e52, Oper.upon]
              refine (ref57_In x.2.2 _ lb (Hvb.out.mono hC.keep) Hlb.out (by omega) f t _ hC.ok).mono ?_
              rintro e w6 ⟨v6, I6, rfl, hb6, hx6, hok6, hr6⟩
              have ha := ha.trans (dq_ch11 (x := x) (y := (x.1, v6, I6)) rfl hun)
              exact hK _ _ ⟨(x.1, v6, I6), put_up (d := some 53) (v := v6) dq_apart ha rfl hun, hC.in11 hun (by simpa using hall.2.2.2) hb6 (hx6.keep hC.ok (Nat.le_refl _)) hok6 hr6⟩
            · have e47 : a2.tmps[47]?.getD undef = x.1 := ev_up (i := 5) dq_apart ha rfl (by simpa using hall.1) (by simp)
              have e53 : a2.tmps[53]?.getD undef = x.2.1 := ev_up (i := 11) dq_apart ha rfl (by simpa using hall.2) (by simp)
              refine wpOp_step hoj (fun K' hK => ?_)
              rw [if_pos (by rfl)]
              unfold Oper.wp
              simp [go_sem, e47, e53, Oper.upon]
              refine (ref57_Same x.2.2 _ _ _ _ (hC.p5 (by simpa using hall.1)) (hC.p11 (by simpa using hall.2)) _ hC.ok).mono ?_
              rintro e w6 ⟨rfl, hb6⟩
              exact hK _ _ ⟨x, put_up (d := some 54) (v := .bool (decide (recIn la f t = recIn lb f t))) dq_apart ha rfl hun, hC.step hb6 (by decide) (by decide)⟩
            · have e54 : a2.tmps[54]?.getD undef = .bool (decide (recIn la f t = recIn lb f t)) := ev_up (i := 12) dq_apart ha rfl (by simpa using hall.1) (by simp)
              refine wpOp_step hoj (fun K' hK => ?_)
              rw [if_pos (by rfl)]
              unfold Oper.wp
              simp [go_sem, e54, Oper.upon]
              exact hK _ _ ⟨x, put_up (d := some 9) (v := .bool (decide (recIn la f t = recIn lb f t))) dq_apart ha rfl hun, hC.step (Below.refl _ _) (by decide) (by decide)⟩
          · rintro x s a2 w2 hup ha hC
            have hC := hC.bel
            rw [fill_all _ _ _ _ (fun i hi => by rw [Nat.zero_add]; exact hup i (by simpa using hi))] at ha
            subst ha
            simp only [fillAll, Act.put]
            have c0 := cell_thru hC c0
            have c1 := cell_thru hC c1
            have p0 := cell_thru hC p0
            have p1 := cell_thru hC p1
            have p2 := cell_thru hC p2
            have p3 := cell_thru hC p3
            have q0 := cell_thru hC q0
            have q1 := cell_thru hC q1
            have q2 := cell_thru hC q2
            have q3 := cell_thru hC q3
            have hok2 : Ok I w2 := hokb.below (Nat.le_refl _) hC
            have Hb2 := Lib.hid (Hb3.out.trans ((hbel.trans (hC.mono hbel.size)).mono Hb3.out.size))
            clear hA hB hup hbel hC hokb hok3 Hb3
            by_cases hsm : recIn la f t = recIn lb f t
            · rw [decide_eq_true hsm]
              have heq := run_eql_range f t (sumP (recText (recIn la f t))) f t (sumP (recText (recIn lb f t))) (recIn la f t).length (recIn lb f t).length
              rw [decide_eq_true ⟨rfl, rfl, by rw [hsm], by rw [hsm]⟩] at heq
              clear hsm
              go_wp2
              go_ret
              exact ⟨rfl, Hb2.out⟩
            · rw [decide_eq_false hsm]
              clear hsm
              have hne := run_neq_range f t (sumP (recText (recIn la f t))) f t (sumP (recText (recIn lb f t))) (recIn la f t).length (recIn lb f t).length
              by_cases hv : f = f ∧ t = t ∧ ((recIn la f t).length : Int) = ((recIn lb f t).length : Int) ∧ sumP (recText (recIn la f t)) = sumP (recText (recIn lb f t))
              · rw [decide_eq_true hv] at hne
                have heq := run_eql_range f t (sumP (recText (recIn la f t))) f t (sumP (recText (recIn lb f t))) (recIn la f t).length (recIn lb f t).length
                rw [decide_eq_true hv] at heq
                have HrA := Lib.hid (fun W (hW : Ok I W) => ref57_Summary I _ la Hva.out Hla.out (by omega) Hvala.out f t W hW)
                have HrB := Lib.hid (fun W (hW : Ok I W) => ref57_Summary I _ lb Hvb.out Hlb.out (by omega) Hvalb.out f t W hW)
                clear hv
                go_wp2_with fail
                have g0 := cell_regrown c0
                have g1 := cell_regrown c1
                have u0 := cell_regrown p0
                have u1 := cell_regrown p1
                have u2 := cell_regrown p2
                have u3 := cell_regrown p3
                have v0 := cell_regrown q0
                have v1 := cell_regrown q1
                have v2 := cell_regrown q2
                have v3 := cell_regrown q3
                refine wp_region_quiet_below (by kernel_rfl) (by kernel_rfl) ?_
                repeat (go_big_quiet_step ((with_reducible first | exact Calls.regrown_of (HrA.out _ (hok2.below (Nat.le_refl _) (below_regrown _ _ _))) | exact Calls.regrown_of (HrB.out _ (hok2.below (Nat.le_refl _) (below_regrown _ _ _))))))
                refine wpQuiet_nil ?_
                intro w9 hwq
                have hb9 : Below (w2).heap.size (w2) w9 := by
                  obtain ⟨pq, rfl⟩ := hwq
                  exact below_regrown _ _ _
                clear hwq
                go_wp2
                go_ret
                exact ⟨rfl, Hb2.out.trans (hb9.mono Hb2.out.size)⟩
              · rw [decide_eq_false hv] at hne
                clear hv
                go_wp2_with fail
                have g0 := cell_regrown c0
                have g1 := cell_regrown c1
                have u0 := cell_regrown p0
                have u1 := cell_regrown p1
                have u2 := cell_regrown p2
                have u3 := cell_regrown p3
                have v0 := cell_regrown q0
                have v1 := cell_regrown q1
                have v2 := cell_regrown q2
                have v3 := cell_regrown q3
                refine wp_region_quiet_below (by kernel_rfl) (by kernel_rfl) ?_
                repeat (go_big_quiet_step ((fail)))
                refine wpQuiet_nil ?_
                intro w9 hwq
                have hb9 : Below (w2).heap.size (w2) w9 := by
                  obtain ⟨pq, rfl⟩ := hwq
                  exact below_regrown _ _ _
                clear hwq
                go_wp2
                go_ret
                exact ⟨rfl, Hb2.out.trans (hb9.mono Hb2.out.size)⟩
      · go_wp2
        go_ret
        exact ⟨rfl, Hb3.out⟩
    · rw [h2]
      go_wp2
      go_ret
      exact ⟨rfl, Hb3.out⟩
  · rw [h1]
    go_wp2
    go_ret
    exact ⟨rfl, ((Below.refl _ _).alloc (Nat.le_refl _) _).trans (hb2'.mono (by simp))⟩
end Go.Proofs.YtmapjaihkmjmmaaDoor
