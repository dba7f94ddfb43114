/-
  Walks of the reference's layer 32: Remove, put.
-/
import Derived.Test.YtnnhgmpdfjljbaaDoorAtC
namespace Go.Proofs.YtnnhgmpdfjljbaaDoor
open Go.RowKit

theorem at_info : (Tryd.prog.info? 34).map (fun i => (i.zero, i.size, i.bytes)) = some (some (.agg #[.string ⟨#[]⟩, .string ⟨#[]⟩]), 2, 32) := by kernel_rfl
theorem at_elem : ElemOk Tryd.prog 22 34 tAt 32 := ElemOk.of Tryd.underlying22 at_info rfl (by decide) rfl

/-- The cells of a boxed attribute behind a call. -/
theorem atBox {W w1 : World} {n : Nat} {x : At} {T : TypeId} (hn : n = W.heap.size) (hb : Below (W.alloc (.cells #[S x.k, S x.v] T)).heap.size (W.alloc (.cells #[S x.k, S x.v] T)) w1) :
    w1.cell? ⟨n, 0, none⟩ = some (S x.k) ∧ w1.cell? ⟨n, 1, none⟩ = some (S x.v) := by
  subst hn
  refine ⟨?_, ?_⟩ <;> (rw [hb.cell (by simp)]; simp)

set_option maxRecDepth 100000 in
set_option maxHeartbeats 1000000 in
theorem ref32_Remove (I : IH) (v : Value) (l : List At) (hv : RdS tAt I v l) (hn : l.length ≤ 1000000) (key : Bytes) (w : World) (hw : Ok I w) :
    Calls Tryd.prog 22 #[v, S key] w (RetS tAt I w (remA l key)) := by
  obtain ⟨ao, cap, rfl, hcap, hcm, _⟩ := id hv
  have Hv := Lib.hid hv; clear hv
  go_enter Tryd.func22, Tryd.ntmps22
  go_wp2_with fail
  go_loopw [5, 6] (fun s5 s6 wr => ∃ k : Nat, k ≤ l.length ∧ s6 = .int .i64 k ∧ OwnS tAt 34 I wr w.heap.size s5 (remA (l.take k) key) ∧ Below w.heap.size w wr) (fun _ i _ => l.length - (intOf i).toNat)
  case atStart =>
    exact ⟨0, Nat.zero_le _, rfl, ⟨[], World.ownsRow_made w #[] 0 (Nat.le_refl _) (Nat.zero_le _) (by simp), LiesL.nil _ _⟩, (Below.refl _ _).alloc (Nat.le_refl _) _⟩
  case round =>
    obtain ⟨k, hk, rfl, hown, hb⟩ := hrel
    have Hown := Lib.hid hown
    clear hown
    by_cases hlt : k < l.length
    · have hwr : Ok I wr := hw.below (Nat.le_refl _) hb
      obtain ⟨x, b, off, cap', hlx, hvv, hc0, hc1⟩ := atAt Hv.out hwr k hlt
      cases hvv
      have Hst := Lib.hid (show remA (l.take (k + 1)) key = remA (l.take k) key ++ (if x.k == key then [] else [x]) by
        rw [List.take_succ_eq_append_getElem hlt, hlx, remA, List.filter_append, remA]; congr 1; cases h : (x.k == key) <;> simp [h])
      have hlen : (remA (l.take k) key).length ≤ k := Nat.le_trans (List.length_filter_le _ _) (by simp; omega)
      clear hlx
      cases he : (x.k == key)
      · have he2 : (x.k != key) = true := by simp [bne, he]
        have Hn := Lib.hid (show remA (l.take (k + 1)) key = remA (l.take k) key ++ [x] by rw [Hst.out, he]; rfl)
        go_wp2_with (at_builtin; refine wpList_append1 (w0 := wr) at_elem rfl _ _ rfl _ _ _ rfl Hown.out x [S x.k, S x.v] _ rfl rfl (by omega) (by omega) (Below.size hb) ?_)
        intro v9 w9 hown9 hg9
        have hb9 := Below.own hb hg9 Hown.out (Nat.le_refl _) (Below.size hb)
        go_wp2
        go_roundw
        case rel => exact ⟨k + 1, by omega, by go_num, (by rw [Hn.out]; exact hown9), hb9⟩
        case measure => simp [intOf]; omega
      · have he2 : (x.k != key) = false := by simp [bne, he]
        have Hn := Lib.hid (show remA (l.take (k + 1)) key = remA (l.take k) key by rw [Hst.out, he]; simp)
        go_wp2
        go_roundw
        case rel => exact ⟨k + 1, by omega, by go_num, (by rw [Hn.out]; exact Hown.out), hb⟩
        case measure => simp [intOf]; omega
    · have hke : l.take k = l := List.take_of_length_le (by omega)
      rw [hke] at Hown
      clear hke
      go_wp2
      go_ret
      obtain ⟨I', hI1, hI2, hI3, _⟩ := Hown.out.freeze (hw.below (Nat.le_refl _) hb) (fun b hb => hw.fresh hb)
      exact ⟨_, I', rfl, hb, hI1, hI2, hI3⟩

set_option maxRecDepth 100000 in
set_option maxHeartbeats 2000000 in
theorem ref32_put (I : IH) (v : Value) (l : List At) (hv : RdS tAt I v l) (hn : l.length ≤ 1000000) (x : At) (w : World) (hw : Ok I w) :
    Calls Tryd.prog 25 #[v, x.val] w (RetS tAt I w (putA l x)) := by
  obtain ⟨ao, cap, rfl, hcap, hcm, _⟩ := id hv
  have Hv := Lib.hid hv; clear hv
  obtain ⟨hx0, hx1⟩ := atBox (x := x) (T := 34) (W := w) rfl (Below.refl _ _)
  have Hx0 := Lib.hid hx0
  have Hx1 := Lib.hid hx1
  have hw1 : Ok I (w.alloc (.cells #[S x.k, S x.v] 34)) := hw.alloc _
  clear hx0 hx1
  go_enter Tryd.func25, Tryd.ntmps25
  go_wp2_with fail
  generalize hW1 : w.alloc (.cells #[S x.k, S x.v] 34) = W1 at Hx0 Hx1 hw1 ⊢
  have hz1 : W1.heap.size = w.heap.size + 1 := by rw [← hW1]; simp
  have Hst0 := Lib.hid (show OwnS tAt 34 I (W1.alloc (.cells #[] 34)) W1.heap.size (.slice (some ⟨W1.heap.size, 0, none⟩) 0 0) [] from ⟨[], World.ownsRow_made W1 #[] 0 (Nat.le_refl _) (Nat.zero_le _) (by simp), LiesL.nil _ _⟩)
  have HbW := Lib.hid (show Below w.heap.size w W1 by rw [← hW1]; exact (Below.refl _ _).alloc (Nat.le_refl _) _)
  rw [← hz1]
  have hlw : w.heap.size < W1.heap.size := by omega
  have Hfr := Lib.hid (fun b (hb : W1.heap.size ≤ b) => hw1.fresh hb)
  clear hW1 hz1
  go_loopw [5, 6, 7] (fun s5 s6 s7 wr => ∃ (k : Nat) (out : List At) (d : Bool), k ≤ l.length ∧ s6 = .bool d ∧ s7 = .int .i64 k ∧ OwnS tAt 34 I wr W1.heap.size s5 out ∧ out.length ≤ 2 * k ∧ putGo x d out (l.drop k) = putA l x ∧ Below W1.heap.size W1 wr) (fun _ _ i _ => l.length - (intOf i).toNat)
  case atStart => exact ⟨0, [], false, Nat.zero_le _, rfl, rfl, Hst0.out, by simp, rfl, (Below.refl _ _).alloc (Nat.le_refl _) _⟩
  case round =>
    clear Hst0
    obtain ⟨k, out, d, hk, rfl, rfl, hown, hol, hrr, hb⟩ := hrel
    have Hrr := Lib.hid hrr
    have Hown := Lib.hid hown
    have hwr : Ok I wr := hw1.below (Nat.le_refl _) hb
    have hr0 := cell_thru hb Hx0.out
    have hr1 := cell_thru hb Hx1.out
    clear hrr hown
    by_cases hlt : k < l.length
    · obtain ⟨y, b, off, cap', hly, hvv, hc0, hc1⟩ := atAt Hv.out hwr k hlt
      cases hvv
      have Hst := Lib.hid (show putA l x = putGo x (d || !(Op.bytesLess y.k x.k)) ((if !d && !(Op.bytesLess y.k x.k) then out ++ [x] else out) ++ (if y.k == x.k then [] else [y])) (l.drop (k+1)) by
        rw [← Hrr.out, List.drop_eq_getElem_cons hlt, hly]; rfl)
      have Hly := Lib.hid hly
      have g0 := cell_regrown hr0
      have g1 := cell_regrown hr1
      have y0 := cell_regrown hc0
      have y1 := cell_regrown hc1
      clear hly
      rcases bl_total y.k x.k with ht | ht | ht
      · have f1 : (y.k == x.k) = false := by simpa using bl_ne ht
        have f2 : (y.k != x.k) = true := by simp [bne, f1]
        have f3 : (x.k == y.k) = false := by simpa using (bl_ne ht).symm
        have f4 := bl_asymm ht
        cases d
        · have Hnx := Lib.hid (show putGo x false (out ++ [y]) (l.drop (k+1)) = putA l x by rw [Hst.out, ht, f1]; rfl)
          go_wp2_with fail
          refine wp_region_quiet_below (by kernel_rfl) (by kernel_rfl) ?_
          repeat (go_big_quiet_step ((fail)))
          refine wpQuiet_nil ?_
          intro w2 hwq
          have hb2 : Below (wr).heap.size (wr) w2 := by
            obtain ⟨pq, rfl⟩ := hwq
            exact below_regrown _ _ _
          clear hwq
          have Hown2 := Lib.hid (Hown.out.below hb2)
          have hb2' := hb.trans (hb2.mono hb.size)
          have hr0' := cell_thru hb2 hr0
          have hr1' := cell_thru hb2 hr1
          have hc0' := cell_thru hb2 hc0
          have hc1' := cell_thru hb2 hc1
          have hok2 : Ok I w2 := hwr.below (Nat.le_refl _) hb2
          clear hb2 g0 g1 y0 y1
          go_wp2_with fail
          have g0 := cell_regrown hr0'
          have g1 := cell_regrown hr1'
          have y0 := cell_regrown hc0'
          have y1 := cell_regrown hc1'
          refine wp_region_quiet_below (by kernel_rfl) (by kernel_rfl) ?_
          repeat (go_big_quiet_step ((fail)))
          refine wpQuiet_nil ?_
          intro w3 hwq
          have hb3 : Below (w2).heap.size (w2) w3 := by
            obtain ⟨pq, rfl⟩ := hwq
            exact below_regrown _ _ _
          clear hwq
          have hown3 := Hown2.out.below hb3
          have hb3' := hb2'.trans (hb3.mono hb2'.size)
          have hd0 := cell_thru hb3 hc0'
          have hd1 := cell_thru hb3 hc1'
          clear hb3 g0 g1 y0 y1
          go_wp2_with (at_builtin; refine wpList_append1 (w0 := w3) at_elem rfl _ _ rfl _ _ _ rfl hown3 y [S y.k, S y.v] _ rfl rfl (by (try simp only [List.length_append, List.length_singleton]); omega) (by (try simp only [List.length_append, List.length_singleton]); omega) (Below.size hb3') ?_)
          intro v9 w9 hown9 hg9
          have hb9 := Below.own hb3' hg9 hown3 (Nat.le_refl _) (Below.size hb3')
          go_wp2
          go_roundw
          case rel => exact ⟨k + 1, _, false, by omega, rfl, by go_num, hown9, (by simp only [List.length_append, List.length_cons, List.length_nil]; omega), Hnx.out, hb9⟩
          case measure => simp [intOf]; omega
        · have Hnx := Lib.hid (show putGo x true (out ++ [y]) (l.drop (k+1)) = putA l x by rw [Hst.out, ht, f1]; rfl)
          go_wp2_with fail
          refine wp_region_quiet_below (by kernel_rfl) (by kernel_rfl) ?_
          repeat (go_big_quiet_step ((fail)))
          refine wpQuiet_nil ?_
          intro w2 hwq
          have hb2 : Below (wr).heap.size (wr) w2 := by
            obtain ⟨pq, rfl⟩ := hwq
            exact below_regrown _ _ _
          clear hwq
          have Hown2 := Lib.hid (Hown.out.below hb2)
          have hb2' := hb.trans (hb2.mono hb.size)
          have hr0' := cell_thru hb2 hr0
          have hr1' := cell_thru hb2 hr1
          have hc0' := cell_thru hb2 hc0
          have hc1' := cell_thru hb2 hc1
          have hok2 : Ok I w2 := hwr.below (Nat.le_refl _) hb2
          clear hb2 g0 g1 y0 y1
          go_wp2_with fail
          have g0 := cell_regrown hr0'
          have g1 := cell_regrown hr1'
          have y0 := cell_regrown hc0'
          have y1 := cell_regrown hc1'
          refine wp_region_quiet_below (by kernel_rfl) (by kernel_rfl) ?_
          repeat (go_big_quiet_step ((fail)))
          refine wpQuiet_nil ?_
          intro w3 hwq
          have hb3 : Below (w2).heap.size (w2) w3 := by
            obtain ⟨pq, rfl⟩ := hwq
            exact below_regrown _ _ _
          clear hwq
          have hown3 := Hown2.out.below hb3
          have hb3' := hb2'.trans (hb3.mono hb2'.size)
          have hd0 := cell_thru hb3 hc0'
          have hd1 := cell_thru hb3 hc1'
          clear hb3 g0 g1 y0 y1
          go_wp2_with (at_builtin; refine wpList_append1 (w0 := w3) at_elem rfl _ _ rfl _ _ _ rfl hown3 y [S y.k, S y.v] _ rfl rfl (by (try simp only [List.length_append, List.length_singleton]); omega) (by (try simp only [List.length_append, List.length_singleton]); omega) (Below.size hb3') ?_)
          intro v9 w9 hown9 hg9
          have hb9 := Below.own hb3' hg9 hown3 (Nat.le_refl _) (Below.size hb3')
          go_wp2
          go_roundw
          case rel => exact ⟨k + 1, _, true, by omega, rfl, by go_num, hown9, (by simp only [List.length_append, List.length_cons, List.length_nil]; omega), Hnx.out, hb9⟩
          case measure => simp [intOf]; omega
      · have f1 : (y.k == x.k) = true := by rw [ht]; exact beq_self_eq_true _
        have f2 : (y.k != x.k) = false := by simp [bne, f1]
        have f3 : (x.k == y.k) = true := by rw [ht]; exact beq_self_eq_true _
        have f4 : Op.bytesLess y.k x.k = false := by rw [ht]; exact bl_irrefl _
        have f5 : Op.bytesLess x.k y.k = false := by rw [ht]; exact bl_irrefl _
        clear ht
        cases d
        · have Hnx := Lib.hid (show putGo x true (out ++ [x]) (l.drop (k+1)) = putA l x by rw [Hst.out, f4, f1]; simp)
          go_wp2_with fail
          refine wp_region_quiet_below (by kernel_rfl) (by kernel_rfl) ?_
          repeat (go_big_quiet_step ((fail)))
          refine wpQuiet_nil ?_
          intro w2 hwq
          have hb2 : Below (wr).heap.size (wr) w2 := by
            obtain ⟨pq, rfl⟩ := hwq
            exact below_regrown _ _ _
          clear hwq
          have Hown2 := Lib.hid (Hown.out.below hb2)
          have hb2' := hb.trans (hb2.mono hb.size)
          have hr0' := cell_thru hb2 hr0
          have hr1' := cell_thru hb2 hr1
          have hc0' := cell_thru hb2 hc0
          have hc1' := cell_thru hb2 hc1
          have hok2 : Ok I w2 := hwr.below (Nat.le_refl _) hb2
          clear hb2 g0 g1 y0 y1
          go_wp2_with (at_builtin; refine wpList_append1 (w0 := w2) at_elem rfl _ _ rfl _ _ _ rfl Hown2.out x [S x.k, S x.v] _ rfl rfl (by omega) (by omega) (Below.size hb2') ?_)
          intro v5 w5 hown5 hg5
          have hb5 := Below.own hb2' hg5 Hown2.out (Nat.le_refl _) (Below.size hb2')
          have hok5 : Ok I w5 := Ok.own hok2 hg5 Hown2.out Hfr.out
          have hq0 := cell_own hg5 (Hown2.out.ne_lt hlw) hr0'
          have hq1 := cell_own hg5 (Hown2.out.ne_lt hlw) hr1'
          obtain ⟨y', b', off', cap'', hly', hvv, hd0, hd1⟩ := atAt Hv.out hok5 k hlt
          cases hvv
          have hyy : y = y' := by rw [← hly', Hly.out]
          subst hyy
          have Hown5 := Lib.hid hown5
          clear hly' hown5 hg5
          go_wp2_with fail
          have g0 := cell_regrown hq0
          have g1 := cell_regrown hq1
          have y0 := cell_regrown hd0
          have y1 := cell_regrown hd1
          refine wp_region_quiet_below (by kernel_rfl) (by kernel_rfl) ?_
          repeat (go_big_quiet_step ((fail)))
          refine wpQuiet_nil ?_
          intro w6 hwq
          have hb6 : Below (w5).heap.size (w5) w6 := by
            obtain ⟨pq, rfl⟩ := hwq
            exact below_regrown _ _ _
          clear hwq
          have hown6 := Hown5.out.below hb6
          have hb6' := hb5.trans (hb6.mono hb5.size)
          have he0 := cell_thru hb6 hd0
          have he1 := cell_thru hb6 hd1
          clear hb6 g0 g1 y0 y1
          go_wp2
          go_roundw
          case rel => exact ⟨k + 1, _, true, by omega, rfl, by go_num, hown6, (by simp only [List.length_append, List.length_cons, List.length_nil]; omega), Hnx.out, hb6'⟩
          case measure => simp [intOf]; omega
        · have Hnx := Lib.hid (show putGo x true out (l.drop (k+1)) = putA l x by rw [Hst.out, f4, f1]; simp)
          go_wp2_with fail
          refine wp_region_quiet_below (by kernel_rfl) (by kernel_rfl) ?_
          repeat (go_big_quiet_step ((fail)))
          refine wpQuiet_nil ?_
          intro w2 hwq
          have hb2 : Below (wr).heap.size (wr) w2 := by
            obtain ⟨pq, rfl⟩ := hwq
            exact below_regrown _ _ _
          clear hwq
          have Hown2 := Lib.hid (Hown.out.below hb2)
          have hb2' := hb.trans (hb2.mono hb.size)
          have hr0' := cell_thru hb2 hr0
          have hr1' := cell_thru hb2 hr1
          have hc0' := cell_thru hb2 hc0
          have hc1' := cell_thru hb2 hc1
          have hok2 : Ok I w2 := hwr.below (Nat.le_refl _) hb2
          clear hb2 g0 g1 y0 y1
          go_wp2_with fail
          have g0 := cell_regrown hr0'
          have g1 := cell_regrown hr1'
          have y0 := cell_regrown hc0'
          have y1 := cell_regrown hc1'
          refine wp_region_quiet_below (by kernel_rfl) (by kernel_rfl) ?_
          repeat (go_big_quiet_step ((fail)))
          refine wpQuiet_nil ?_
          intro w3 hwq
          have hb3 : Below (w2).heap.size (w2) w3 := by
            obtain ⟨pq, rfl⟩ := hwq
            exact below_regrown _ _ _
          clear hwq
          have hown3 := Hown2.out.below hb3
          have hb3' := hb2'.trans (hb3.mono hb2'.size)
          clear hb3 g0 g1 y0 y1
          go_wp2
          go_roundw
          case rel => exact ⟨k + 1, _, true, by omega, rfl, by go_num, hown3, by omega, Hnx.out, hb3'⟩
          case measure => simp [intOf]; omega
      · have f1 : (y.k == x.k) = false := by simpa using (bl_ne ht).symm
        have f2 : (y.k != x.k) = true := by simp [bne, f1]
        have f3 : (x.k == y.k) = false := by simpa using bl_ne ht
        have f4 := bl_asymm ht
        cases d
        · have Hnx := Lib.hid (show putGo x true (out ++ [x, y]) (l.drop (k+1)) = putA l x by rw [Hst.out, f4, f1]; simp)
          go_wp2_with fail
          refine wp_region_quiet_below (by kernel_rfl) (by kernel_rfl) ?_
          repeat (go_big_quiet_step ((fail)))
          refine wpQuiet_nil ?_
          intro w2 hwq
          have hb2 : Below (wr).heap.size (wr) w2 := by
            obtain ⟨pq, rfl⟩ := hwq
            exact below_regrown _ _ _
          clear hwq
          have Hown2 := Lib.hid (Hown.out.below hb2)
          have hb2' := hb.trans (hb2.mono hb.size)
          have hr0' := cell_thru hb2 hr0
          have hr1' := cell_thru hb2 hr1
          have hc0' := cell_thru hb2 hc0
          have hc1' := cell_thru hb2 hc1
          have hok2 : Ok I w2 := hwr.below (Nat.le_refl _) hb2
          clear hb2 g0 g1 y0 y1
          go_wp2_with (at_builtin; refine wpList_append1 (w0 := w2) at_elem rfl _ _ rfl _ _ _ rfl Hown2.out x [S x.k, S x.v] _ rfl rfl (by omega) (by omega) (Below.size hb2') ?_)
          intro v5 w5 hown5 hg5
          have hb5 := Below.own hb2' hg5 Hown2.out (Nat.le_refl _) (Below.size hb2')
          have hok5 : Ok I w5 := Ok.own hok2 hg5 Hown2.out Hfr.out
          have hq0 := cell_own hg5 (Hown2.out.ne_lt hlw) hr0'
          have hq1 := cell_own hg5 (Hown2.out.ne_lt hlw) hr1'
          obtain ⟨y', b', off', cap'', hly', hvv, hd0, hd1⟩ := atAt Hv.out hok5 k hlt
          cases hvv
          have hyy : y = y' := by rw [← hly', Hly.out]
          subst hyy
          have Hown5 := Lib.hid hown5
          clear hly' hown5 hg5
          go_wp2_with fail
          have g0 := cell_regrown hq0
          have g1 := cell_regrown hq1
          have y0 := cell_regrown hd0
          have y1 := cell_regrown hd1
          refine wp_region_quiet_below (by kernel_rfl) (by kernel_rfl) ?_
          repeat (go_big_quiet_step ((fail)))
          refine wpQuiet_nil ?_
          intro w6 hwq
          have hb6 : Below (w5).heap.size (w5) w6 := by
            obtain ⟨pq, rfl⟩ := hwq
            exact below_regrown _ _ _
          clear hwq
          have hown6 := Hown5.out.below hb6
          have hb6' := hb5.trans (hb6.mono hb5.size)
          have he0 := cell_thru hb6 hd0
          have he1 := cell_thru hb6 hd1
          clear hb6 g0 g1 y0 y1
          go_wp2_with (at_builtin; refine wpList_append1 (w0 := w6) at_elem rfl _ _ rfl _ _ _ rfl hown6 y [S y.k, S y.v] _ rfl rfl (by (try simp only [List.length_append, List.length_singleton]); omega) (by (try simp only [List.length_append, List.length_singleton]); omega) (Below.size hb6') ?_)
          intro v9 w9 hown9 hg9
          have hb9 := Below.own hb6' hg9 hown6 (Nat.le_refl _) (Below.size hb6')
          go_wp2
          go_roundw
          case rel => exact ⟨k + 1, _, true, by omega, rfl, by go_num, hown9, (by simp only [List.length_append, List.length_cons, List.length_nil]; omega), Hnx.out, hb9⟩
          case measure => simp [intOf]; omega
        · have Hnx := Lib.hid (show putGo x true (out ++ [y]) (l.drop (k+1)) = putA l x by rw [Hst.out, f4, f1]; simp)
          go_wp2_with fail
          refine wp_region_quiet_below (by kernel_rfl) (by kernel_rfl) ?_
          repeat (go_big_quiet_step ((fail)))
          refine wpQuiet_nil ?_
          intro w2 hwq
          have hb2 : Below (wr).heap.size (wr) w2 := by
            obtain ⟨pq, rfl⟩ := hwq
            exact below_regrown _ _ _
          clear hwq
          have Hown2 := Lib.hid (Hown.out.below hb2)
          have hb2' := hb.trans (hb2.mono hb.size)
          have hr0' := cell_thru hb2 hr0
          have hr1' := cell_thru hb2 hr1
          have hc0' := cell_thru hb2 hc0
          have hc1' := cell_thru hb2 hc1
          have hok2 : Ok I w2 := hwr.below (Nat.le_refl _) hb2
          clear hb2 g0 g1 y0 y1
          go_wp2_with fail
          have g0 := cell_regrown hr0'
          have g1 := cell_regrown hr1'
          have y0 := cell_regrown hc0'
          have y1 := cell_regrown hc1'
          refine wp_region_quiet_below (by kernel_rfl) (by kernel_rfl) ?_
          repeat (go_big_quiet_step ((fail)))
          refine wpQuiet_nil ?_
          intro w3 hwq
          have hb3 : Below (w2).heap.size (w2) w3 := by
            obtain ⟨pq, rfl⟩ := hwq
            exact below_regrown _ _ _
          clear hwq
          have hown3 := Hown2.out.below hb3
          have hb3' := hb2'.trans (hb3.mono hb2'.size)
          have hd0 := cell_thru hb3 hc0'
          have hd1 := cell_thru hb3 hc1'
          clear hb3 g0 g1 y0 y1
          go_wp2_with (at_builtin; refine wpList_append1 (w0 := w3) at_elem rfl _ _ rfl _ _ _ rfl hown3 y [S y.k, S y.v] _ rfl rfl (by (try simp only [List.length_append, List.length_singleton]); omega) (by (try simp only [List.length_append, List.length_singleton]); omega) (Below.size hb3') ?_)
          intro v9 w9 hown9 hg9
          have hb9 := Below.own hb3' hg9 hown3 (Nat.le_refl _) (Below.size hb3')
          go_wp2
          go_roundw
          case rel => exact ⟨k + 1, _, true, by omega, rfl, by go_num, hown9, (by simp only [List.length_append, List.length_cons, List.length_nil]; omega), Hnx.out, hb9⟩
          case measure => simp [intOf]; omega
    · have Hend := Lib.hid (show putA l x = if d then out else out ++ [x] by rw [← Hrr.out, List.drop_of_length_le (by omega)]; rfl)
      cases d
      · go_wp2_with (at_builtin; refine wpList_append1 (w0 := wr) at_elem rfl _ _ rfl _ _ _ rfl Hown.out x [S x.k, S x.v] _ rfl rfl (by omega) (by omega) (Below.size hb) ?_)
        intro v9 w9 hown9 hg9
        have hb9 := Below.own hb hg9 Hown.out (Nat.le_refl _) (Below.size hb)
        have Hown9 := Lib.hid hown9
        have hok9 : Ok I w9 := Ok.own hwr hg9 Hown.out Hfr.out
        clear hown9 hg9
        go_wp2
        go_ret
        obtain ⟨I', hI1, hI2, hI3, _⟩ := Hown9.out.freeze hok9 Hfr.out
        exact ⟨_, I', rfl, HbW.out.trans (hb9.mono (Nat.le_of_lt hlw)), hI1.mono (Nat.le_of_lt hlw), hI2, by rw [Hend.out]; exact hI3⟩
      · go_wp2
        go_ret
        obtain ⟨I', hI1, hI2, hI3, _⟩ := Hown.out.freeze hwr Hfr.out
        exact ⟨_, I', rfl, HbW.out.trans (hb.mono (Nat.le_of_lt hlw)), hI1.mono (Nat.le_of_lt hlw), hI2, by rw [Hend.out]; exact hI3⟩
end Go.Proofs.YtnnhgmpdfjljbaaDoor
