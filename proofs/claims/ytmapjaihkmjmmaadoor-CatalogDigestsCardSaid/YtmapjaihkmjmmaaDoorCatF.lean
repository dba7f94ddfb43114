/-
  Walks of layer 57: Add.
-/
import Derived.Test.YtmapjaihkmjmmaaDoorCatE
namespace Go.Proofs.YtmapjaihkmjmmaaDoor
open Go.RowKit

/-- Add, as the program has it. -/
def recAdd (l : List Rec) (r : Rec) : List Rec × Int :=
  if recValid r ≠ 0 then ([], recValid r)
  else match l[recIndex l (recKey r)]? with
    | none => (l.take (recIndex l (recKey r)) ++ r :: l.drop (recIndex l (recKey r)), 0)
    | some x => if recKey x ≠ recKey r then (l.take (recIndex l (recKey r)) ++ r :: l.drop (recIndex l (recKey r)), 0) else if x.d ≠ r.d then ([], 20) else (l, 0)

theorem recIndex_le (l : List Rec) (key : Bytes) : recIndex l key ≤ l.length := (bs_le _ 0 l.length (Nat.zero_le _)).2

/-- A result list and an error: what a call hands back. -/
def RetL {α : Type} (T : Ty α) (I : IH) (w : World) (l : List α) (n : Int) (e : Ending) (w' : World) : Prop :=
  ∃ v' I', e = .returned (.tuple #[v', .int .i64 n]) ∧ Below w.heap.size w w' ∧ Ext w.heap.size I I' ∧ Ok I' w' ∧ RdS T I' v' l

set_option maxRecDepth 100000 in
set_option maxHeartbeats 1000000 in
theorem cat_Add (I : IH) (hI : Glob I) (v : Value) (l : List Rec) (hv : RdS tRec I v l) (hl : ∀ r ∈ l, r.Wf) (hn : l.length ≤ 1000000) (r : Rec) (hr : r.Wf) (w : World) (hw : Ok I w) :
    Calls Tryd.prog 15 #[v, r.v] w (RetL tRec I w (recAdd l r).1 (recAdd l r).2) := by
  obtain ⟨ao, cap, rfl, hcap, hcm, _⟩ := id hv
  have hkl : (recKey r).length ≤ 9223372036854775807 := by simp only [recKey]; split <;> simp [refDigits_length]
  have hil := recIndex_le l (recKey r)
  have Hv := Lib.hid hv; clear hv
  have Hl := Lib.hid hl; clear hl
  have Hr := Lib.hid hr; clear hr
  by_cases h0 : recValid r = 0
  · have hst : recAdd l r = match l[recIndex l (recKey r)]? with
      | none => (l.take (recIndex l (recKey r)) ++ r :: l.drop (recIndex l (recKey r)), 0)
      | some x => if recKey x ≠ recKey r then (l.take (recIndex l (recKey r)) ++ r :: l.drop (recIndex l (recKey r)), 0) else if x.d ≠ r.d then ([], 20) else (l, 0) := by
      rw [recAdd, if_neg (by simpa using h0)]
    have Hst := Lib.hid hst; clear hst
    obtain ⟨i, hi⟩ : ∃ i, recIndex l (recKey r) = i := ⟨_, rfl⟩
    rw [hi] at hil
    have Hi := Lib.hid hi; clear hi
    go_enter Tryd.func15, Tryd.ntmps15
    go_wp2_with fail
    refine (cat_valid r Hr.out _).mono ?_
    rintro e w1 ⟨rfl, hb1⟩
    rw [h0]
    obtain ⟨hx0, hx1, hx2⟩ := recBox rfl hb1
    have hb1' : Below w.heap.size w w1 := ((Below.refl _ _).alloc (Nat.le_refl _) _).trans (hb1.mono (by simp))
    have hw1 : Ok I w1 := hw.below (Nat.le_refl _) hb1'
    have hz1 : w.heap.size < w1.heap.size := by have := hb1.size; simp at this; omega
    clear hb1
    go_wp2_with fail
    refine (cat_Key I hI r Hr.out _ hw1).mono ?_
    rintro e w2 ⟨rfl, hb2⟩
    have hw2 : Ok I w2 := hw1.below (Nat.le_refl _) hb2
    go_wp2_with fail
    refine (cat_index I hI _ l Hv.out Hl.out hn _ _ hw2).mono ?_
    rintro e w3 ⟨rfl, hb3⟩
    have hw3 : Ok I w3 := hw2.below (Nat.le_refl _) hb3
    have hb13 : Below w1.heap.size w1 w3 := hb2.trans (hb3.mono hb2.size)
    have hy0 : w3.cell? ⟨w.heap.size, 0, none⟩ = some (.int .u32 r.a) := (hb13.cell hz1).trans hx0
    have hy1 : w3.cell? ⟨w.heap.size, 1, none⟩ = some (.int .i64 r.s) := (hb13.cell hz1).trans hx1
    have hy2 : w3.cell? ⟨w.heap.size, 2, none⟩ = some (S r.d) := (hb13.cell hz1).trans hx2
    have hb3' : Below w.heap.size w w3 := hb1'.trans (hb13.mono hb1'.size)
    have hz3 : w.heap.size < w3.heap.size := by have := hb13.size; omega
    clear hb2 hb3 hb13 hx0 hx1 hx2 hb1' hw1 hw2 hz1
    rw [Hi.out]
    by_cases he : i = l.length
    · have hd1 : ((i : Int) == (l.length : Int)) = true := by rw [he]; simp
      have Hfin := Lib.hid (show recAdd l r = (l.take l.length ++ r :: l.drop l.length, 0) by rw [Hst.out, Hi.out, he]; simp)
      go_wp2_with fail
      refine wp_region_quiet_below (by kernel_rfl) (by kernel_rfl) ?_
      repeat (go_big_quiet_step ((fail)))
      refine wpQuiet_nil ?_
      intro w4 hwq
      have hb4 : Below (w3).heap.size (w3) w4 := by
        obtain ⟨pq, rfl⟩ := hwq
        exact below_regrown _ _ _
      clear hwq
      go_wp2_with fail
      have hw4 : Ok I w4 := hw3.below (Nat.le_refl _) hb4
      have hz4 : w.heap.size < w4.heap.size := by have := hb4.size; omega
      have hc0 : w4.cell? ⟨w.heap.size, 0, none⟩ = some (.int .u32 r.a) := (hb4.cell hz3).trans hy0
      have hc1 : w4.cell? ⟨w.heap.size, 1, none⟩ = some (.int .i64 r.s) := (hb4.cell hz3).trans hy1
      have hc2 : w4.cell? ⟨w.heap.size, 2, none⟩ = some (S r.d) := (hb4.cell hz3).trans hy2
      go_region_with (first
        | (go_at_call 27; refine (rec_Clone I _ l Hv.out _ (by repeat (first | exact hw4 | refine Ok.drew ?_ | refine Ok.alloc ?_ _)) (by omega)).mono ?_; rintro e w5 ⟨v5, rfl, hown5, hb5⟩; have hq0 : w5.cell? ⟨w.heap.size, 0, none⟩ = some (.int .u32 r.a) := cell_thru hb5 (by first | exact hc0 | exact cell_past _ hc0); have hq1 : w5.cell? ⟨w.heap.size, 1, none⟩ = some (.int .i64 r.s) := cell_thru hb5 (by first | exact hc1 | exact cell_past _ hc1); have hq2 : w5.cell? ⟨w.heap.size, 2, none⟩ = some (S r.d) := cell_thru hb5 (by first | exact hc2 | exact cell_past _ hc2))
        | (go_at_call 26; refine (rec_Insert I w4.heap.size v5 l r _ l.length 25 [.int .u32 r.a, .int .i64 r.s, S r.d] _ (by first | exact (hown5.alloc _).lower (by simp) | exact hown5.lower (by simp)) rfl (by first | exact heap_alloc_new _ _ | exact (hb5.block _ (by simp)).trans (heap_alloc_new w4 _)) (by first | exact hown5.ne_ge (Nat.le_refl _) | exact hown5.ne_lt (by simp)) (by omega) (by omega) (by have := hb5.size; simp at this ⊢; omega)).mono ?_; rintro e w6 ⟨v6, rfl, hown6, hg6⟩; have hb6 : Below w4.heap.size w4 w6 := (by first | exact ((((Below.refl _ w4).drew.trans (hb5.mono (by simp))).alloc hb5.size _).grown hg6 (by have := hb5.size; simp at this ⊢; omega) (fun k hk => by have := hown5.own_ge hk; simpa using this)) | exact ((((Below.refl _ w4).drew.alloc (by simp) _).trans (hb5.mono (by simp))).grown hg6 (by have := hb5.size; simp at this ⊢; omega) (fun k hk => by have := hown5.own_ge hk; simp at this; omega))); clear hg6 hb5 hown5 hq0 hq1 hq2))
      all_goals
        go_wp2
        go_ret2
        obtain ⟨I', hI1, hI2, hI3, _⟩ := hown6.freeze (hw4.below (Nat.le_refl _) hb6) (fun b hb => hw4.fresh hb)
        rw [Hfin.out]
        exact ⟨v6, I', rfl, hb3'.trans ((hb4.mono hb3'.size).trans (hb6.mono (Nat.le_trans hb3'.size hb4.size))), hI1.mono (Nat.le_trans hb3'.size hb4.size), hI2, hI3⟩
    · have hlt : i < l.length := by omega
      have hd1 : ((i : Int) == (l.length : Int)) = false := by rw [beq_eq_false_iff_ne]; omega
      obtain ⟨x, b, off, cap', hx, hvv, hp0, hp1, hp2⟩ := recAt Hv.out hw3 i hlt
      cases hvv
      have Hlx := Lib.hid (show l[i]? = some x by rw [List.getElem?_eq_getElem hlt, hx])
      have Hxw := Lib.hid (Hl.out x (by rw [← hx]; exact List.getElem_mem hlt))
      clear hx
      have hu0 := cell_regrown hp0
      have hu1 := cell_regrown hp1
      have hu2 := cell_regrown hp2
      have ht0 := cell_regrown hy0
      have ht1 := cell_regrown hy1
      have ht2 := cell_regrown hy2
      have hj : (i : Int).toNat = i := by simp
      by_cases hk : recKey x = recKey r
      · have hd2 : (recKey x == recKey r) = true := by simpa using hk
        go_wp2_with fail
        refine wp_region_quiet_below (by kernel_rfl) (by kernel_rfl) ?_
        repeat (go_big_quiet_step ((with_reducible first | exact Calls.regrown_of (cat_Key I hI x Hxw.out _ (hw3.below (Nat.le_refl _) (below_regrown _ _ _))) | exact Calls.regrown_of (cat_Key I hI r Hr.out _ (hw3.below (Nat.le_refl _) (below_regrown _ _ _))))))
        refine wpQuiet_nil ?_
        intro w4 hwq
        have hb4 : Below (w3).heap.size (w3) w4 := by
          obtain ⟨pq, rfl⟩ := hwq
          exact below_regrown _ _ _
        clear hwq
        go_wp2_with fail
        have hw4 : Ok I w4 := hw3.below (Nat.le_refl _) hb4
        have hb4' : Below w.heap.size w w4 := hb3'.trans (hb4.mono hb3'.size)
        have hs0 := cell_regrown (cell_thru hb4 hp2)
        have hs1 := cell_regrown (cell_thru hb4 hy2)
        by_cases hdd : x.d = r.d
        · have hd3 : (x.d == r.d) = true := by simpa using hdd
          have Hfin := Lib.hid (show recAdd l r = (l, 0) by rw [Hst.out, Hi.out, Hlx.out]; simp [hk, hdd])
          clear hk hdd
          refine wp_region_quiet_below (by kernel_rfl) (by kernel_rfl) ?_
          repeat (go_big_quiet_step ((fail)))
          refine wpQuiet_nil ?_
          intro w5 hwq
          have hb5 : Below (w4).heap.size (w4) w5 := by
            obtain ⟨pq, rfl⟩ := hwq
            exact below_regrown _ _ _
          clear hwq
          have hw5 : Ok I w5 := hw4.below (Nat.le_refl _) hb5
          go_wp2_with fail
          refine (rec_Clone I _ l Hv.out _ hw5 (by omega)).mono ?_
          rintro e w6 ⟨v6, rfl, hown6, hb6⟩
          go_wp2
          go_ret2
          obtain ⟨I', hI1, hI2, hI3, _⟩ := hown6.freeze (hw5.below (Nat.le_refl _) hb6) (fun b hb => hw5.fresh hb)
          rw [Hfin.out]
          exact ⟨v6, I', rfl, hb4'.trans ((hb5.mono hb4'.size).trans (hb6.mono (Nat.le_trans hb4'.size hb5.size))), hI1.mono (Nat.le_trans hb4'.size hb5.size), hI2, hI3⟩
        · have hd3 : (x.d == r.d) = false := by simpa using hdd
          have Hfin := Lib.hid (show recAdd l r = ([], 20) by rw [Hst.out, Hi.out, Hlx.out]; simp [hk, hdd])
          clear hk hdd
          refine wp_region_quiet_below (by kernel_rfl) (by kernel_rfl) ?_
          repeat (go_big_quiet_step ((fail)))
          refine wpQuiet_nil ?_
          intro w5 hwq
          have hb5 : Below (w4).heap.size (w4) w5 := by
            obtain ⟨pq, rfl⟩ := hwq
            exact below_regrown _ _ _
          clear hwq
          go_wp2
          go_ret2
          have hb5' := hb4'.trans (hb5.mono hb4'.size)
          rw [Hfin.out]
          exact ⟨_, I, rfl, hb5', Ext.refl _ _, hw.below (Nat.le_refl _) hb5', RdS.nil _ _⟩
      · have hd2 : (recKey x == recKey r) = false := by simpa using hk
        have Hfin := Lib.hid (show recAdd l r = (l.take i ++ r :: l.drop i, 0) by rw [Hst.out, Hi.out, Hlx.out]; simp [hk])
        go_wp2_with fail
        refine wp_region_quiet_below (by kernel_rfl) (by kernel_rfl) ?_
        repeat (go_big_quiet_step ((with_reducible first | exact Calls.regrown_of (cat_Key I hI x Hxw.out _ (hw3.below (Nat.le_refl _) (below_regrown _ _ _))) | exact Calls.regrown_of (cat_Key I hI r Hr.out _ (hw3.below (Nat.le_refl _) (below_regrown _ _ _))))))
        refine wpQuiet_nil ?_
        intro w4 hwq
        have hb4 : Below (w3).heap.size (w3) w4 := by
          obtain ⟨pq, rfl⟩ := hwq
          exact below_regrown _ _ _
        clear hwq
        go_wp2_with fail
        have hw4 : Ok I w4 := hw3.below (Nat.le_refl _) hb4
        have hz4 : w.heap.size < w4.heap.size := by have := hb4.size; omega
        have hc0 : w4.cell? ⟨w.heap.size, 0, none⟩ = some (.int .u32 r.a) := (hb4.cell hz3).trans hy0
        have hc1 : w4.cell? ⟨w.heap.size, 1, none⟩ = some (.int .i64 r.s) := (hb4.cell hz3).trans hy1
        have hc2 : w4.cell? ⟨w.heap.size, 2, none⟩ = some (S r.d) := (hb4.cell hz3).trans hy2
        go_region_with (first
          | (go_at_call 27; refine (rec_Clone I _ l Hv.out _ (by repeat (first | exact hw4 | refine Ok.drew ?_ | refine Ok.alloc ?_ _)) (by omega)).mono ?_; rintro e w5 ⟨v5, rfl, hown5, hb5⟩; have hq0 : w5.cell? ⟨w.heap.size, 0, none⟩ = some (.int .u32 r.a) := cell_thru hb5 (by first | exact hc0 | exact cell_past _ hc0); have hq1 : w5.cell? ⟨w.heap.size, 1, none⟩ = some (.int .i64 r.s) := cell_thru hb5 (by first | exact hc1 | exact cell_past _ hc1); have hq2 : w5.cell? ⟨w.heap.size, 2, none⟩ = some (S r.d) := cell_thru hb5 (by first | exact hc2 | exact cell_past _ hc2))
          | (go_at_call 26; refine (rec_Insert I w4.heap.size v5 l r _ i 25 [.int .u32 r.a, .int .i64 r.s, S r.d] _ (by first | exact (hown5.alloc _).lower (by simp) | exact hown5.lower (by simp)) rfl (by first | exact heap_alloc_new _ _ | exact (hb5.block _ (by simp)).trans (heap_alloc_new w4 _)) (by first | exact hown5.ne_ge (Nat.le_refl _) | exact hown5.ne_lt (by simp)) (by omega) (by omega) (by have := hb5.size; simp at this ⊢; omega)).mono ?_; rintro e w6 ⟨v6, rfl, hown6, hg6⟩; have hb6 : Below w4.heap.size w4 w6 := (by first | exact ((((Below.refl _ w4).drew.trans (hb5.mono (by simp))).alloc hb5.size _).grown hg6 (by have := hb5.size; simp at this ⊢; omega) (fun k hk => by have := hown5.own_ge hk; simpa using this)) | exact ((((Below.refl _ w4).drew.alloc (by simp) _).trans (hb5.mono (by simp))).grown hg6 (by have := hb5.size; simp at this ⊢; omega) (fun k hk => by have := hown5.own_ge hk; simp at this; omega))); clear hg6 hb5 hown5 hq0 hq1 hq2))
        all_goals
          go_wp2
          go_ret2
          obtain ⟨I', hI1, hI2, hI3, _⟩ := hown6.freeze (hw4.below (Nat.le_refl _) hb6) (fun b hb => hw4.fresh hb)
          rw [Hfin.out]
          exact ⟨v6, I', rfl, hb3'.trans ((hb4.mono hb3'.size).trans (hb6.mono (Nat.le_trans hb3'.size hb4.size))), hI1.mono (Nat.le_trans hb3'.size hb4.size), hI2, hI3⟩
  · obtain ⟨q, hq⟩ : ∃ q, recValid r = q := ⟨_, rfl⟩
    have hn0 : (q != 0) = true := by rw [← hq]; simpa using h0
    have Hst := Lib.hid (show recAdd l r = ([], q) by rw [recAdd, if_pos h0, hq])
    have Hq := Lib.hid hq; clear hq h0
    go_enter Tryd.func15, Tryd.ntmps15
    go_wp2_with fail
    refine (cat_valid r Hr.out _).mono ?_
    rintro e w1 ⟨rfl, hb1⟩
    rw [Hq.out]
    go_wp2
    go_ret2
    have hb1' : Below w.heap.size w w1 := ((Below.refl _ _).alloc (Nat.le_refl _) _).trans (hb1.mono (by simp))
    rw [Hst.out]
    exact ⟨_, I, rfl, hb1', Ext.refl _ _, hw.below (Nat.le_refl _) hb1', RdS.nil _ _⟩
end Go.Proofs.YtmapjaihkmjmmaaDoor
