/-
  Walks of layer 57: Clone and Insert at records.
-/
import Derived.Test.YtmapjaihkmjmmaaDoorCatD
import Derived.Test.YtmapjaihkmjmmaaDoorRowK
namespace Go.Proofs.YtmapjaihkmjmmaaDoor
open Go.RowKit

theorem rec_Clone_info : (Tryd.prog.info? 25).map (fun i => (i.zero, i.size, i.bytes)) = some (some (.agg #[.int .u32 0, .int .i64 0, .string ⟨#[]⟩]), 3, 32) := by kernel_rfl

set_option maxRecDepth 100000 in
set_option maxHeartbeats 400000 in
theorem rec_Clone (I : IH) (v : Value) (l : List _) (hv : RdS tRec I v l) (w : World) (hw : Ok I w) (hbig : l.length * 32 ≤ 140737488355328) :
    Calls Tryd.prog 27 #[v] w fun e w' => ∃ v', e = .returned v' ∧ OwnS tRec 25 I w' w.heap.size v' l ∧ Below w.heap.size w w' := by
  obtain ⟨i0, hi, hz0, hz1, hz2⟩ := info_parts rec_Clone_info
  have q22 : ∀ (w : World) (a : Option Addr) (n c n' c' : Nat), (binOp .eql 22 (.slice a n c) (.slice none n' c')).run Tryd.prog w = .ok (.bool a.isNone) w := fun w a n c n' c' => Lib.run_eql_slice_nil w _ _ a n c n' c' Tryd.underlying22
  obtain ⟨ao, cap, xs, rfl, hcap, hcm, hL, hx⟩ := hv.cells hw (by decide)
  have HL := Lib.hid hL
  have Hx := Lib.hid hx
  clear hL hx hv
  cases ao with
  | none =>
    have h0 : l.length = 0 := by
      rcases Nat.eq_zero_or_pos l.length with h | h
      · exact h
      · obtain ⟨b, off, arr, e, _⟩ := Hx.out h; cases e
    have : l = [] := List.eq_nil_of_length_eq_zero h0
    subst this
    go_enter Tryd.func27, Tryd.ntmps27
    go_wp2
    go_ret
    exact ⟨_, rfl, OwnS.nil _ _ _ _ _, Below.refl _ _⟩
  | some a =>
    go_enter Tryd.func27, Tryd.ntmps27
    go_wp2_with (at_builtin; refine wpList_append_own _ rfl _ _ 22 rfl w.heap.size 25 i0 _ 3 32 Tryd.underlying22 hi hz0 hz1 hz2 rfl (by decide) _ _ _ rfl (World.ownsRow_made w #[] 0 (Nat.le_refl _) (Nat.zero_le _) (by simp)) a l.length cap xs rfl ?qc1 ?qc2 ?qc3 ?qc4 ?qc5 ?qc6 ?_)
    case qc1 => exact HL.out.1
    case qc2 =>
      intro j u hj
      have hl : 0 < l.length := by
        have := (List.getElem?_eq_some_iff.1 hj).1
        rw [HL.out.1] at this
        rcases Nat.eq_zero_or_pos l.length with h | h
        · rw [h] at this; omega
        · exact h
      obtain ⟨b, off, arr, e, _, hb, hc⟩ := Hx.out hl
      cases e
      rw [Addr.add_lit]
      rw [World.cell?_alloc_lt _ _ _ hb]
      exact hc j u hj
    case qc3 => exact HL.out.oneCell
    case qc4 => rw [Nat.zero_add]; omega
    case qc5 => rw [Nat.zero_add]; exact hbig
    case qc6 => simp
    intro v' w1 hown hgrow _
    go_wp2
    go_ret
    refine ⟨v', rfl, ⟨xs, (by have hq := hown; first | exact hq | (simp at hq; exact hq)), HL.out⟩, ?_⟩
    exact ((Below.refl _ w).alloc (Nat.le_refl _) _).grown hgrow (by simp) (by intro k hk; simp [Value.ownBlock] at hk; omega)

set_option maxRecDepth 100000 in
set_option maxHeartbeats 2000000 in
theorem rec_Insert_end (I : IH) (B : Nat) (v : Value) (l : List _) (x : _) (vb : Nat) (news : List Value) (w : World) (hv : OwnS tRec 25 I w B v l) (hx : tRec.rd I news x)
    (hvs : ∀ j u, news[j]? = some u → w.cell? ⟨vb, j, none⟩ = some u) (hbig : (l.length + 1) * 32 ≤ 140737488355328) (hB : B ≤ w.heap.size) :
    Calls Tryd.prog 26 #[v, .int .i64 l.length, .slice (some ⟨vb, 0, none⟩) 1 1] w fun e w' => ∃ v', e = .returned v' ∧ OwnS tRec 25 I w' B v' (l ++ [x]) ∧ w.grownBy w' v.ownBlock := by
  obtain ⟨i0, hi, hz0, hz1, hz2⟩ := info_parts rec_Clone_info
  obtain ⟨xs, hown, hL⟩ := hv
  have HL := Lib.hid hL
  have Hx := Lib.hid hx
  have Hvs := Lib.hid hvs
  have hml : maxLen = 9223372036854775807 := rfl
  have hlen : l.length ≤ 4611686018427387904 := by omega
  clear hL hx hvs
  have hcase : v = .slice none 0 0 ∧ l.length = 0 ∨ ∃ g cap, v = .slice (some ⟨g, 0, none⟩) l.length cap ∧ l.length ≤ cap ∧ cap ≤ 9223372036854775807 := by
    rcases hown.2 with h | ⟨g, cap, cur, h1, _, _, h2, h3, _⟩
    · exact .inl h
    · exact .inr ⟨g, cap, h1, h2, by rw [hml] at h3; exact h3⟩
  have Hml := Lib.hid hml
  clear hml
  rcases hcase with ⟨rfl, h0⟩ | ⟨g, cap, rfl, hcap, hcm⟩
  · have : l = [] := List.eq_nil_of_length_eq_zero h0
    subst this
    go_enter Tryd.func26, Tryd.ntmps26
    go_wp2_with (at_builtin; refine wpList_append_own _ rfl _ _ 22 rfl B 25 i0 _ 3 32 Tryd.underlying22 hi hz0 hz1 hz2 rfl (by decide) _ _ _ rfl hown ⟨vb, 0, none⟩ 1 1 news rfl ?qc1 ?qc2 ?qc3 ?qc4 ?qc5 ?qc6 ?_)
    case qc1 => exact tRec.len Hx.out
    case qc2 => intro j u hj; rw [Addr.add_lit, Nat.zero_add]; exact Hvs.out j u hj
    case qc3 => exact tRec.one Hx.out
    case qc4 => rw [Hml.out]; simp
    case qc5 => simp
    case qc6 => exact hB
    intro v' w1 hown1 hgrow _
    go_wp2
    go_ret
    exact ⟨v', rfl, ⟨_, hown1, LiesL.append HL.out (LiesL.one Hx.out)⟩, hgrow⟩
  · go_enter Tryd.func26, Tryd.ntmps26
    go_wp2_with (at_builtin; refine wpList_append_own _ rfl _ _ 22 rfl B 25 i0 _ 3 32 Tryd.underlying22 hi hz0 hz1 hz2 rfl (by decide) _ _ _ rfl hown ⟨vb, 0, none⟩ 1 1 news rfl (tRec.len Hx.out) (fun j u hj => by rw [Addr.add_lit, Nat.zero_add]; exact Hvs.out j u hj) (tRec.one Hx.out) (by rw [Hml.out]; omega) hbig hB ?_)
    all_goals
      intro v' w1 hown1 hgrow _
      go_wp2
      go_ret
      exact ⟨v', rfl, ⟨_, by rw [List.length_append]; exact hown1, LiesL.append HL.out (LiesL.one Hx.out)⟩, hgrow⟩

set_option maxRecDepth 100000 in
set_option maxHeartbeats 4000000 in
theorem rec_Insert_shift (I : IH) (B g cap i : Nat) (l : List _) (x : _) (vb : Nat) (tb : TypeId) (news : List Value) (w : World) (hv : OwnS tRec 25 I w B (.slice (some ⟨g, 0, none⟩) l.length cap) l) (hx : tRec.rd I news x)
    (hvb : w.heap[vb]? = some (.cells news.toArray tb (0, 0))) (hne : vb ≠ g) (hi : i < l.length) (hroom : l.length + 1 ≤ cap) (hcm : cap ≤ 9223372036854775807) :
    Calls Tryd.prog 26 #[.slice (some ⟨g, 0, none⟩) l.length cap, .int .i64 i, .slice (some ⟨vb, 0, none⟩) 1 1] w fun e w' => ∃ v', e = .returned v' ∧ OwnS tRec 25 I w' B v' (l.take i ++ x :: l.drop i) ∧ w.grownBy w' (some g) := by
  obtain ⟨i0, hif, hz0, hz1, hz2⟩ := info_parts rec_Clone_info
  obtain ⟨xs, ⟨hxl, hown⟩, hL⟩ := hv
  rcases hown with ⟨h0, _⟩ | ⟨g', cap', cur, h1, hBg, hg, _, hcm', hcs, htk⟩
  · cases h0
  injection h1 with h1a h1b h1c
  injection h1a with h1a
  injection h1a with h1a
  subst h1a h1c
  have hsz : (Tryd.prog.info? 25).map (·.size) = some 3 := by rw [hif]; simp [hz1]
  have hnl : news.length = 3 := tRec.len hx
  have hn1 := tRec.one hx
  have hxl' : xs.length = l.length * 3 := hxl
  have hcs' : cur.size = cap * 3 := hcs
  have htk' : cur.toList.take xs.length = xs := by rw [hxl]; exact htk
  have hov : ∀ lb cb, (callFunc 38 #[.slice (some ⟨vb, 0, none⟩) 1 1, .slice (some ⟨g, (i + 1) * 3, none⟩) lb cb]).run Tryd.prog w = .ok (.value (.bool false)) w := fun lb cb => by
    rw [run_callFunc_extern Tryd.func38 (by kernel_rfl) (by kernel_rfl) (by kernel_rfl) (e := Extern.SlicesOverlaps.overlaps #[22, 22] #[4]) (by kernel_rfl),
      Lib.run_overlaps_apart w 22 4 25 Tryd.underlying22 3 (fun w => by simp [go_sem]) ⟨vb, 0, none⟩ ⟨g, (i + 1) * 3, none⟩ 1 1 lb cb hne tb 25 3 cur.size (by simp [World.shape?, hvb, hnl]) (by simp [World.shape?, hg]) (by omega) (by simp [World.frozen?, hvb]) (by simp [World.frozen?, hvb])]
    rfl
  obtain ⟨cur1, hcur1⟩ : ∃ c, c = over cur (i * 3 + 3) (xs.drop (i * 3)) := ⟨_, rfl⟩
  have hs1 : cur1.size = cur.size := by rw [hcur1]; exact over_size _ _ _ (by rw [List.length_drop]; omega)
  obtain ⟨cur2, hcur2⟩ : ∃ c, c = over cur1 (i * 3) news := ⟨_, rfl⟩
  have hs2 : cur2.size = cur1.size := by rw [hcur2]; exact over_size _ _ _ (by omega)
  have hfin : cur2.toList.take ((l.length + 1) * 3) = xs.take (i * 3) ++ news ++ xs.drop (i * 3) := by
    have := insert_row cur xs news (i * 3) 3 (by omega) htk' hnl (by omega)
    rw [← hcur1, ← hcur2] at this
    rw [show (l.length + 1) * 3 = xs.length + 3 by omega]
    exact this
  have hcp1 : ∀ ty dc sc, (Builtin.copy_ #[22, 22] ty #[.slice (some ⟨g, (i + 1) * 3, none⟩) (l.length - i) dc, .slice (some ⟨g, i * 3, none⟩) (l.length + 1 - i) sc]).run Tryd.prog w.drew = .ok (goInt ((l.length - i : Nat) : Int)) (w.drew.setRow g cur1) := fun ty dc sc => by
    have h := run_copy_k (P := Tryd.prog) w.drew 22 22 ty 25 3 g ((i + 1) * 3) (l.length - i) dc ⟨g, i * 3, none⟩ (l.length + 1 - i) sc cur 25 (xs.drop (i * 3)) Tryd.underlying22 hsz hg (by rw [List.length_drop]; simp only [Nat.min_def]; split <;> omega)
      (fun j u hj => by
        rw [Addr.add_lit]
        rw [List.getElem?_drop, ← htk', List.getElem?_take] at hj
        split at hj
        · rw [World.cell?_drew, cell_of_row w g _ cur _ _ hg, ← Array.getElem?_toList]; exact hj
        · cases hj) (by rw [List.length_drop]; omega) (fun u hu => hL.oneCell u (List.mem_of_mem_drop hu))
    rw [h, show Nat.min (l.length + 1 - i) (l.length - i) = l.length - i by simp only [Nat.min_def]; split <;> omega, hcur1]
    rw [show (i + 1) * 3 = i * 3 + 3 by omega]
    rfl
  have hg1 : (w.drew.setRow g cur1).heap[g]? = some (.cells cur1 25 (0, 0)) := setRow_heap w.drew g cur cur1 _ _ hg
  have hcp2 : ∀ ty dc, (Builtin.copy_ #[22, 22] ty #[.slice (some ⟨g, i * 3, none⟩) (l.length + 1 - i) dc, .slice (some ⟨vb, 0, none⟩) 1 1]).run Tryd.prog (w.drew.setRow g cur1) = .ok (goInt 1) ((w.drew.setRow g cur1).setRow g cur2) := fun ty dc => by
    have h := run_copy_k (P := Tryd.prog) (w.drew.setRow g cur1) 22 22 ty 25 3 g (i * 3) (l.length + 1 - i) dc ⟨vb, 0, none⟩ 1 1 cur1 25 news Tryd.underlying22 hsz hg1 (by rw [hnl]; simp only [Nat.min_def]; split <;> omega)
      (fun j u hj => by
        rw [Addr.add_lit, Nat.zero_add]
        have : (w.drew.setRow g cur1).heap[vb]? = some (.cells news.toArray tb (0, 0)) := by rw [setRow_other _ _ _ _ hne]; exact hvb
        rw [cell_of_row _ vb j _ _ _ this]; simpa using hj) (by omega) hn1
    rw [h, show Nat.min 1 (l.length + 1 - i) = 1 by simp only [Nat.min_def]; split <;> omega, hcur2]
    rfl
  have Hlen := Lib.hid (show (xs.take (i * 3) ++ news ++ xs.drop (i * 3)).length = (l.length + 1) * 3 by simp; omega)
  have Hsz := Lib.hid (show cur2.size = cap * 3 by omega)
  have Hfin := Lib.hid hfin
  have HL := Lib.hid hL
  have Hx := Lib.hid hx
  have Hg1 := Lib.hid hg1
  have hb1 : ¬ (cap = i + 1) := by omega
  have hb2 : ¬ (cap = i) := by omega
  clear hfin hL hx hg1 hcur1 hcur2 hxl hxl' hcs hcs' htk htk' hnl hn1 hvb hcm' hg
  have hw1 : IntKind.i64.wrap ((i : Int) + 1) = (i : Int) + 1 := IntWalk.i64_in _ (by omega)
  have hw2 : 0 ≤ (i : Int) + 1 := by omega
  have hw3 : ((i : Int) + 1).toNat = i + 1 := by omega
  have hw4 : i ≤ l.length := by omega
  have hw5 : (i : Int) ≤ (l.length : Int) + 1 := by omega
  go_enter Tryd.func26, Tryd.ntmps26
  go_wp2_with (simp only [hov])
  go_region_law (refine step_copy_runI rfl _ _ 22 22 rfl _ _ (by simp [Act.eval, Act.put]) (by simp [Act.eval, Act.put]) (hcp1 _ _ _) ?_)
  go_wp2_with (at_builtin; refine wpList_copy_runI _ rfl _ _ 22 22 rfl _ _ rfl rfl (hcp2 _ _) ?_)
  go_ret
  have hln : (l.take i ++ x :: l.drop i).length = l.length + 1 := by simp; omega
  refine ⟨_, rfl, ?_, ?_⟩
  · unfold OwnS
    rw [hln]
    refine ⟨xs.take (i * 3) ++ news ++ xs.drop (i * 3), ⟨Hlen.out, .inr ⟨g, cap, cur2, rfl, hBg, setRow_heap _ g cur1 cur2 _ _ Hg1.out, by omega, by unfold maxLen; omega, Hsz.out, Hfin.out⟩⟩, ?_⟩
    have := ((HL.out.take i).append (LiesL.one Hx.out)).append (HL.out.drop i)
    rwa [show l.take i ++ [x] ++ l.drop i = l.take i ++ x :: l.drop i by simp] at this
  · have h0 : w.grownBy w.drew (some g) := ⟨rfl, rfl, rfl, Nat.le_refl _, fun _ _ _ => rfl⟩
    exact grown_trans' (grown_trans' h0 grown_setRow) grown_setRow

set_option maxRecDepth 100000 in
set_option maxHeartbeats 4000000 in
theorem rec_Insert_grow (I : IH) (B g cap i : Nat) (l : List _) (x : _) (vb : Nat) (tb : TypeId) (news : List Value) (w : World) (hv : OwnS tRec 25 I w B (.slice (some ⟨g, 0, none⟩) l.length cap) l) (hx : tRec.rd I news x)
    (hvb : w.heap[vb]? = some (.cells news.toArray tb (0, 0))) (hi : i < l.length) (hroom : cap < l.length + 1) (hbig : (l.length + 1) * 32 ≤ 140737488355328) (hB : B ≤ w.heap.size) :
    Calls Tryd.prog 26 #[.slice (some ⟨g, 0, none⟩) l.length cap, .int .i64 i, .slice (some ⟨vb, 0, none⟩) 1 1] w fun e w' => ∃ v', e = .returned v' ∧ OwnS tRec 25 I w' B v' (l.take i ++ x :: l.drop i) ∧ w.grownBy w' (some g) := by
  obtain ⟨i0, hif, hz0, hz1, hz2⟩ := info_parts rec_Clone_info
  obtain ⟨xs, ⟨hxl, hown⟩, hL⟩ := hv
  rcases hown with ⟨h0, _⟩ | ⟨g', cap', cur, h1, hBg, hg, hnc, hcm', hcs, htk⟩
  · cases h0
  injection h1 with h1a h1b h1c
  injection h1a with h1a
  injection h1a with h1a
  subst h1a h1c
  have hsz : (Tryd.prog.info? 25).map (·.size) = some 3 := by rw [hif]; simp [hz1]
  have hnl : news.length = 3 := tRec.len hx
  have hn1 := tRec.one hx
  have hxl' : xs.length = l.length * 3 := hxl
  have hcs' : cur.size = cap * 3 := hcs
  have htk' : cur.toList.take xs.length = xs := by rw [hxl]; exact htk
  have hgw : g < w.heap.size := (Array.getElem?_eq_some_iff.1 hg).1
  have hvw : vb < w.heap.size := (Array.getElem?_eq_some_iff.1 hvb).1
  have hxcell : ∀ (j : Nat) u, xs[j]? = some u → w.cell? ⟨g, j, none⟩ = some u := fun j u hj => by
    rw [← htk', List.getElem?_take] at hj
    split at hj
    · rw [cell_of_row w g _ cur _ _ hg, ← Array.getElem?_toList]; exact hj
    · cases hj
  have hold : (Builtin.firstCells i0.size i (.slice (some ⟨g, 0, none⟩) i cap)).run Tryd.prog w.drew = .ok (xs.take (i * 3)).toArray w.drew :=
    run_firstCells_some w.drew i0.size i ⟨g, 0, none⟩ i cap (xs.take (i * 3)) (by rw [hz1, List.length_take]; omega) (fun j u hj => by
      rw [Addr.add_lit, Nat.zero_add]
      rw [List.getElem?_take] at hj
      split at hj
      · exact hxcell j u hj
      · cases hj)
  obtain ⟨G, hG⟩ : ∃ G, G = grownCap w (l.length + 1) cap 25 := ⟨_, rfl⟩
  have hGn : l.length + 1 ≤ G := by rw [hG]; exact grownCap_ge w _ _ _
  have hG63 : G ≤ 9223372036854775807 := by
    have := grownCap_le_maxLen w (l.length + 1) cap 25 (by unfold maxLen; omega)
    rw [← hG] at this
    unfold maxLen at this
    omega
  obtain ⟨z, hz⟩ : ∃ z, i0.zero = some z := ⟨_, hz0⟩
  have hzs : z.cells.size = 3 := by rw [hz] at hz0; cases hz0; rfl
  obtain ⟨ROW, hROW⟩ : ∃ ROW : Array Value, ROW = (xs.take (i * 3)).toArray ++ Builtin.zeroCells z.cells (l.length + 1 - i) ++ Builtin.zeroCells z.cells (G - (l.length + 1)) := ⟨_, rfl⟩
  have hRs : ROW.size = G * 3 := by
    rw [hROW, Array.size_append, Array.size_append, size_zeroCells, size_zeroCells, hzs]
    simp
    omega
  have hRt : ROW.toList.take (i * 3) = xs.take (i * 3) := by
    rw [hROW, Array.toList_append, Array.toList_append, List.append_assoc, List.take_append_of_le_length (by simp; omega), List.take_of_length_le (by simp; omega)]
  have hrz : ∀ ty, (Builtin.append_ #[22, 3] ty #[.slice (some ⟨g, 0, none⟩) i cap, .int .i64 ((l.length : Int) + 1 - (i : Int))]).run Tryd.prog w =
      .ok (.slice (some ⟨w.heap.size, 0, none⟩) (l.length + 1) G) (w.drew.alloc (.cells ROW 25)) := fun ty => by
    have h := Lib.run_append_grow_zeros w 22 3 ty 25 i0 z .i64 .i64 Tryd.underlying22 Tryd.underlying3 hif hz (some ⟨g, 0, none⟩) i cap (xs.take (i * 3)) hold (l.length + 1 - i) (by omega) (by rw [hz1]; omega) (by omega) (by omega) (by rw [hz2]; omega) (by rw [hz2, show i + (l.length + 1 - i) = l.length + 1 by omega]; exact growslice_fits hroom hbig)
    rw [show i + (l.length + 1 - i) = l.length + 1 by omega, ← hG, ← hROW] at h
    rw [show (l.length : Int) + 1 - (i : Int) = ((l.length + 1 - i : Nat) : Int) by omega]
    exact h
  obtain ⟨row2, hrow2⟩ : ∃ c, c = over ROW (i * 3) news := ⟨_, rfl⟩
  have hs2 : row2.size = ROW.size := by rw [hrow2]; exact over_size _ _ _ (by omega)
  obtain ⟨row3, hrow3⟩ : ∃ c, c = over row2 (i * 3 + 3) (xs.drop (i * 3)) := ⟨_, rfl⟩
  have hs3 : row3.size = row2.size := by rw [hrow3]; exact over_size _ _ _ (by rw [List.length_drop]; omega)
  have hfin : row3.toList.take ((l.length + 1) * 3) = xs.take (i * 3) ++ news ++ xs.drop (i * 3) := by
    have := insert_row2 ROW xs news (i * 3) 3 (by omega) hRt hnl (by omega)
    rw [← hrow2, ← hrow3] at this
    rw [show (l.length + 1) * 3 = xs.length + 3 by omega]
    exact this
  obtain ⟨W1, hW1⟩ : ∃ W1, W1 = w.drew.alloc (.cells ROW 25) := ⟨_, rfl⟩
  have hN1 : W1.heap[w.heap.size]? = some (.cells ROW 25 (0, 0)) := by rw [hW1]; exact heap_alloc_new w.drew _
  have ho1 : ∀ b, b < w.heap.size → W1.heap[b]? = w.heap[b]? := fun b hb => by rw [hW1]; exact Below.heap_alloc w.drew _ b hb
  rw [← hW1] at hrz
  have hcpA : ∀ ty dc, (Builtin.copy_ #[22, 22] ty #[.slice (some ⟨w.heap.size, i * 3, none⟩) (l.length + 1 - i) dc, .slice (some ⟨vb, 0, none⟩) 1 1]).run Tryd.prog W1 = .ok (goInt 1) (W1.setRow w.heap.size row2) := fun ty dc => by
    have h := run_copy_k (P := Tryd.prog) W1 22 22 ty 25 3 w.heap.size (i * 3) (l.length + 1 - i) dc ⟨vb, 0, none⟩ 1 1 ROW 25 news Tryd.underlying22 hsz hN1 (by rw [hnl]; simp only [Nat.min_def]; split <;> omega)
      (fun j u hj => by
        rw [Addr.add_lit, Nat.zero_add, cell_of_row _ vb j _ _ _ ((ho1 vb hvw).trans hvb)]; simpa using hj) (by omega) hn1
    rw [h, show Nat.min 1 (l.length + 1 - i) = 1 by simp only [Nat.min_def]; split <;> omega, hrow2]
    rfl
  have hN2 : (W1.setRow w.heap.size row2).heap[w.heap.size]? = some (.cells row2 25 (0, 0)) := setRow_heap W1 w.heap.size ROW row2 _ _ hN1
  have hcpB : ∀ ty dc sc, (Builtin.copy_ #[22, 22] ty #[.slice (some ⟨w.heap.size, (i + 1) * 3, none⟩) (l.length - i) dc, .slice (some ⟨g, i * 3, none⟩) (l.length - i) sc]).run Tryd.prog (W1.setRow w.heap.size row2).drew = .ok (goInt ((l.length - i : Nat) : Int)) ((W1.setRow w.heap.size row2).drew.setRow w.heap.size row3) := fun ty dc sc => by
    have h := run_copy_k (P := Tryd.prog) (W1.setRow w.heap.size row2).drew 22 22 ty 25 3 w.heap.size ((i + 1) * 3) (l.length - i) dc ⟨g, i * 3, none⟩ (l.length - i) sc row2 25 (xs.drop (i * 3)) Tryd.underlying22 hsz hN2 (by rw [List.length_drop]; simp only [Nat.min_def]; split <;> omega)
      (fun j u hj => by
        rw [Addr.add_lit]
        rw [List.getElem?_drop] at hj
        have hgg : (W1.setRow w.heap.size row2).heap[g]? = some (.cells cur 25 (0, 0)) := by rw [setRow_other _ _ _ _ (by omega), ho1 g hgw]; exact hg
        rw [World.cell?_drew, cell_of_row _ g _ cur _ _ hgg, ← cell_of_row w g _ cur _ _ hg]
        exact hxcell _ u hj) (by rw [List.length_drop]; omega) (fun u hu => hL.oneCell u (List.mem_of_mem_drop hu))
    rw [h, show Nat.min (l.length - i) (l.length - i) = l.length - i by simp only [Nat.min_def]; split <;> omega, hrow3]
    rw [show (i + 1) * 3 = i * 3 + 3 by omega]
    rfl
  have Hlen := Lib.hid (show (xs.take (i * 3) ++ news ++ xs.drop (i * 3)).length = (l.length + 1) * 3 by simp; omega)
  have Hsz := Lib.hid (show row3.size = G * 3 by omega)
  have Hfin := Lib.hid hfin
  have HL := Lib.hid hL
  have Hx := Lib.hid hx
  have HN2 := Lib.hid hN2
  have HW1 := Lib.hid hW1
  have hb1 : ¬ (G = i + 1) := by omega
  have hb2 : ¬ (G = i) := by omega
  have hb3 : ¬ (cap = i) := by omega
  clear hfin hL hx hN2 hN1 hrow2 hrow3 hROW hRs hRt hxl hxl' hcs hcs' htk htk' hnl hn1 hvb hcm' hg hold hxcell ho1 hW1 hG hz hz0 hzs hs2 hs3
  have hw1 : IntKind.i64.wrap ((i : Int) + 1) = (i : Int) + 1 := IntWalk.i64_in _ (by omega)
  have hw2 : 0 ≤ (i : Int) + 1 := by omega
  have hw3 : ((i : Int) + 1).toNat = i + 1 := by omega
  have hw4 : i ≤ l.length := by omega
  have hw5 : (i : Int) ≤ (l.length : Int) + 1 := by omega
  go_enter Tryd.func26, Tryd.ntmps26
  go_wp2_with (first
    | (at_builtin; refine Lib.wpList_append_run _ rfl _ _ _ _ rfl _ _ rfl rfl _ _ (hrz _) ?_)
    | (at_builtin; refine wpList_copy_runI _ rfl _ _ 22 22 rfl _ _ rfl rfl (hcpA _ _) ?_))
  go_region_law (refine step_copy_runI rfl _ _ 22 22 rfl _ _ (by simp [Act.eval, Act.put]) (by simp [Act.eval, Act.put]) (hcpB _ _ _) ?_)
  go_wp2
  go_ret
  have hln : (l.take i ++ x :: l.drop i).length = l.length + 1 := by simp; omega
  refine ⟨_, rfl, ?_, ?_⟩
  · unfold OwnS
    rw [hln]
    refine ⟨xs.take (i * 3) ++ news ++ xs.drop (i * 3), ⟨Hlen.out, .inr ⟨w.heap.size, G, row3, rfl, hB, setRow_heap _ w.heap.size row2 row3 _ _ HN2.out, hGn, by unfold maxLen; omega, Hsz.out, Hfin.out⟩⟩, ?_⟩
    have := ((HL.out.take i).append (LiesL.one Hx.out)).append (HL.out.drop i)
    rwa [show l.take i ++ [x] ++ l.drop i = l.take i ++ x :: l.drop i by simp] at this
  · rw [HW1.out]
    exact ⟨rfl, rfl, rfl, by simp, fun k hk _ => by
      rw [setRow_other _ _ _ _ (by omega)]
      show ((w.drew.alloc (.cells ROW 25)).setRow w.heap.size row2).heap[k]? = _
      rw [setRow_other _ _ _ _ (by omega)]
      exact Below.heap_alloc w.drew _ k hk⟩

/-- slices.Insert of one element into a row of the call's own. -/
theorem rec_Insert (I : IH) (B : Nat) (v : Value) (l : List _) (x : _) (vb i : Nat) (tb : TypeId) (news : List Value) (w : World) (hv : OwnS tRec 25 I w B v l) (hx : tRec.rd I news x)
    (hvb : w.heap[vb]? = some (.cells news.toArray tb (0, 0))) (hne : v.ownBlock ≠ some vb) (hi : i ≤ l.length) (hbig : (l.length + 1) * 32 ≤ 140737488355328) (hB : B ≤ w.heap.size) :
    Calls Tryd.prog 26 #[v, .int .i64 i, .slice (some ⟨vb, 0, none⟩) 1 1] w fun e w' => ∃ v', e = .returned v' ∧ OwnS tRec 25 I w' B v' (l.take i ++ x :: l.drop i) ∧ w.grownBy w' v.ownBlock := by
  by_cases he : i = l.length
  · subst he
    rw [List.take_length, List.drop_length]
    exact rec_Insert_end I B v l x vb news w hv hx (fun j u hj => by rw [cell_of_row w vb j _ _ _ hvb]; simpa using hj) hbig hB
  · have hcase : ∃ g cap, v = .slice (some ⟨g, 0, none⟩) l.length cap ∧ cap ≤ maxLen := by
      obtain ⟨xs, ⟨_, hown⟩, _⟩ := hv
      rcases hown with ⟨_, h⟩ | ⟨g, cap, cur, h1, _, _, _, h3, _⟩
      · omega
      · exact ⟨g, cap, h1, h3⟩
    obtain ⟨g, cap, rfl, hcm⟩ := hcase
    by_cases hr : l.length + 1 ≤ cap
    · exact rec_Insert_shift I B g cap i l x vb tb news w hv hx hvb (fun e => hne (by rw [e]; rfl)) (by omega) hr (by unfold maxLen at hcm; omega)
    · exact rec_Insert_grow I B g cap i l x vb tb news w hv hx hvb (by omega) (by omega) hbig hB
end Go.Proofs.YtmapjaihkmjmmaaDoor
