/-
  Walks of layer 32: slices.SortFunc at attributes by their keys (Merge's closure).
-/
import Derived.Test.YtnnhgmpdfjljbaaDoorAtL
import Derived.Shelf.SlSortCmp.WholeK
import Derived.Shelf.SlSortCmp.NoneTotal
namespace Go.Proofs.YtnnhgmpdfjljbaaDoor
open Go.RowKit Go.Sort

instance : Inhabited At := ⟨⟨[], []⟩⟩
abbrev encC (x : At) : List Value := [S x.k, S x.v]
abbrev cfA (x y : At) : Int := Lib.compareBytes x.k y.k

theorem ltA (x y : At) : ltOf cfA x y = Op.bytesLess x.k y.k := by
  unfold ltOf cfA
  rw [cmp_bytes]
  cases h : Op.bytesLess x.k y.k
  · cases h2 : (x.k == y.k) <;> simp
  · simp
theorem swoA : SWO (ltOf cfA) := by
  refine ⟨fun x => ?_, fun x y z => ?_, fun x y z => ?_⟩
  · rw [ltA]; exact bl_irrefl _
  · rw [ltA, ltA, ltA]; exact bl_trans
  · rw [ltA, ltA, ltA]
    intro h1 h2
    cases h3 : Op.bytesLess x.k z.k with
    | false => rfl
    | true =>
      rcases bl_total y.k x.k with h | h | h
      · rw [bl_trans h h3] at h2; exact absurd h2 (by simp)
      · rw [h, h3] at h2; exact absurd h2 (by simp)
      · rw [h] at h1; exact absurd h1 (by simp)

set_option maxRecDepth 100000 in
set_option maxHeartbeats 400000 in
theorem at_cmp (x y : At) (w : World) :
    Calls Tryd.prog 30 #[.agg (encC x).toArray, .agg (encC y).toArray] w fun e w' => e = .returned (.int .i64 (cfA x y)) ∧ ∃ q os', w' = grow (w.drewN q) os' := by
  have hc : ∀ W, Calls Tryd.prog 31 #[S x.k, S y.k] W fun e w' => e = .returned (.int .i64 (Lib.compareBytes x.k y.k)) ∧ w' = W := fun W => Tryd.strings_Compare ⟨x.k.toArray⟩ ⟨y.k.toArray⟩ W
  have Hc := Lib.hid hc
  clear hc
  go_enter Tryd.func30, Tryd.ntmps30
  go_wp2_with fail
  refine (Hc.out _).mono ?_
  rintro e w1 ⟨rfl, rfl⟩
  go_wp2
  go_ret
  exact ⟨rfl, 0, _, by rw [alloc_eq_grow, alloc_eq_grow, grow_grow]; rfl⟩

theorem flat_enc (l : List At) : (flatK encC 2 l.toArray).toList = encA l := by
  apply List.ext_getElem?
  intro q
  by_cases hq : q < l.length * 2
  · have h1 := get_flatK encC 2 l.toArray q (by simpa using hq)
    rw [getElem!_pos _ q (by simpa using hq), getElem!_pos l.toArray (q / 2) (by simp; omega)] at h1
    rw [Array.getElem?_toList, Array.getElem?_eq_getElem (by simpa using hq), h1]
    obtain ⟨e0, e1⟩ := encA_at l (q / 2) (by omega)
    rcases (show q % 2 = 0 ∨ q % 2 = 1 by omega) with hm | hm
    · rw [show q / 2 * 2 = q by omega] at e0
      rw [e0, hm]; rfl
    · rw [show q / 2 * 2 + 1 = q by omega] at e1
      rw [e1, hm]; rfl
  · rw [List.getElem?_eq_none (by simp; omega), List.getElem?_eq_none (by rw [encA_length]; omega)]

/-- What the sort leaves. -/
def SrtdA (l l' : List At) : Prop := l'.Perm l ∧ l'.Pairwise fun x y => Op.bytesLess y.k x.k = false

set_option maxRecDepth 100000 in
theorem lib_SortSome (I : IH) (w : World) (B : Nat) (g cap : Nat) (l : List At) (hv : OwnS tAt 34 I w B (.slice (some ⟨g, 0, none⟩) l.length cap) l) (hn : l.length ≤ 1000000) :
    Calls Tryd.prog 29 #[.slice (some ⟨g, 0, none⟩) l.length cap, .func (.func 30) #[] #[]] w fun e w' => e = .returned (.tuple #[]) ∧ ∃ l', SrtdA l l' ∧ OwnS tAt 34 I w' B (.slice (some ⟨g, 0, none⟩) l.length cap) l' ∧ w.grownBy w' (some g) := by
  obtain ⟨xs, ⟨hxl, h1⟩, hL⟩ := hv
  have hxe := lies_enc hL
  rcases h1 with ⟨h0, _⟩ | ⟨gb, cap', cur, e, r1, r2, r3, r4, r5, r6⟩
  · cases h0
  cases e
  have hlt : g < w.heap.size := (Array.getElem?_eq_some_iff.1 r2).1
  have r5' : cur.size = cap * 2 := r5
  have r6' : cur.toList.take (l.length * 2) = encA l := by rw [← hxe]; exact r6
  have hH : HoldsK encC 2 w g 0 l.toArray := by
    intro j hj
    have hj' : j < l.length * 2 := by simpa using hj
    have hf := congrArg (fun L => L[j]?) (flat_enc l)
    simp only [Array.getElem?_toList] at hf
    rw [Array.getElem?_eq_getElem hj, ← r6', List.getElem?_take_of_lt hj', Array.getElem?_toList] at hf
    refine ⟨?_, ?_⟩
    · rw [Nat.zero_add, cell_of_row w g j _ _ _ r2, ← hf, getElem!_pos _ j hj]; rfl
    · rw [Nat.zero_add]; exact frozen_of_row w g j _ _ r2
  have hs := AnyQ.slices_SortFunc Tryd.sortA 2 (fun _ => rfl) (fun _ => rfl) encC (fun _ => rfl) (fun x v hv => by simp at hv; rcases hv with rfl | rfl <;> rfl) cfA swoA 30 #[] g 0 cap l.toArray w (fun _ _ => rfl) (fun m os dk _ x y => at_cmp x y _) hH hlt (by simp; omega)
  rw [List.size_toArray] at hs
  refine hs.mono ?_
  rintro e w' ⟨rfl, d', n, os, hp, hsd, rfl⟩
  obtain ⟨p1, p2, p3⟩ := hp
  have p1' : d'.size = l.length := by simpa using p1
  have hperm : d'.toList.Perm l := by
    have h := p3
    rw [← p1', Array.extract_size] at h
    simpa [p1'] using h
  have hfl := flat_enc d'.toList
  rw [Array.toArray_toList] at hfl
  have hsz : (flatK encC 2 d').size = l.length * 2 := by rw [size_flatK, p1']
  have hblk : (sortWorldK encC 2 w g 0 n d' os).heap[g]? = some (.cells (putCells id 0 (flatK encC 2 d') cur) 34 (0, 0)) := by
    show (w.heap.modify g (onCells _) ++ os)[g]? = _
    rw [Array.getElem?_append_left (by simpa using hlt), Array.getElem?_modify, if_pos rfl, r2]
    rfl
  have hdl : d'.toList.length = l.length := by simpa using p1'
  refine ⟨rfl, d'.toList, ⟨hperm, ?_⟩, ⟨encA d'.toList, ⟨?_, .inr ⟨g, cap, _, by rw [hdl], r1, hblk, by rw [hdl]; exact r3, r4, ?_, ?_⟩⟩, enc_lies I _⟩, ?_⟩
  · rw [List.pairwise_iff_getElem]
    intro i j hi hj hij
    have h := hsd i j (Nat.zero_le _) hij (by rw [← p1']; simpa using hj)
    rw [ltA, getElem!_pos d' j (by simpa using hj), getElem!_pos d' i (by simpa using hi)] at h
    simpa using h
  · rw [encA_length]; rfl
  · simp [putCells]; exact r5'
  · show ((putCells id 0 (flatK encC 2 d') cur).toList.take (d'.toList.length * 2)) = _
    rw [hdl, ← hfl]
    apply List.ext_getElem?
    intro q
    by_cases hq : q < l.length * 2
    · have hq2 : q < cur.size := by omega
      rw [List.getElem?_take_of_lt hq, Array.getElem?_toList, Array.getElem?_toList, Array.getElem?_eq_getElem (by simp [putCells]; exact hq2)]
      simp [putCells, hsz, hq]
    · rw [List.getElem?_eq_none (by simp; omega), List.getElem?_eq_none (by simp; omega)]
  · refine ⟨rfl, rfl, rfl, ?_, fun k hk hne => ?_⟩
    · show w.heap.size ≤ (w.heap.modify g (onCells _) ++ os).size
      simp
    · show (w.heap.modify g (onCells _) ++ os)[k]? = _
      rw [Array.getElem?_append_left (by simpa using hk), Array.getElem?_modify, if_neg (fun e => hne (by rw [e]))]

theorem lib_Sort (I : IH) (w : World) (B : Nat) (v : Value) (l : List At) (hv : OwnS tAt 34 I w B v l) (hn : l.length ≤ 1000000) :
    Calls Tryd.prog 29 #[v, .func (.func 30) #[] #[]] w fun e w' => e = .returned (.tuple #[]) ∧ ∃ l', SrtdA l l' ∧ OwnS tAt 34 I w' B v l' ∧ w.grownBy w' v.ownBlock := by
  have hv' := hv
  obtain ⟨xs, ⟨hxl, h1⟩, hL⟩ := hv'
  rcases h1 with ⟨rfl, h0⟩ | ⟨gb, cap', cur, rfl, _⟩
  · refine (AnyF.slices_SortFunc_none Tryd.sortA none 0 _ w).mono ?_
    rintro e w' ⟨rfl, rfl⟩
    have hl : l = [] := List.eq_nil_of_length_eq_zero h0
    subst hl
    exact ⟨rfl, [], ⟨List.Perm.refl _, List.Pairwise.nil⟩, OwnS.nil _ _ _ _ _, ⟨rfl, rfl, rfl, Nat.le_refl _, fun _ _ _ => rfl⟩⟩
  · exact lib_SortSome I w B gb cap' l hv hn
end Go.Proofs.YtnnhgmpdfjljbaaDoor
