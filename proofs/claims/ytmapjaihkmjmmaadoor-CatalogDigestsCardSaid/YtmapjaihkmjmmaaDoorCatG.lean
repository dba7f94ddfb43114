/-
  Walks of layer 57: the reference's Add.
-/
import Derived.Test.YtmapjaihkmjmmaaDoorCatF
namespace Go.Proofs.YtmapjaihkmjmmaaDoor
open Go.RowKit

def strGt (a b : Bytes) : Bool := !(Op.bytesLess a b) && !(a == b)

/-- The reference's Add from a place on. -/
def refAddGo (r : Rec) : Bool → List Rec → List Rec → List Rec × Int
  | done, out, [] => (if done then out else out ++ [r], 0)
  | done, out, x :: l =>
    if recKey x = recKey r then (if x.d = r.d then refAddGo r true (out ++ [x]) l else ([], 20))
    else if !done && strGt (recKey x) (recKey r) then refAddGo r true (out ++ [r] ++ [x]) l
    else refAddGo r done (out ++ [x]) l
def refAdd (l : List Rec) (r : Rec) : List Rec × Int := if recValid r ≠ 0 then ([], recValid r) else refAddGo r false [] l

theorem rec_elem : ElemOk Tryd.prog 22 25 tRec 32 := ElemOk.of Tryd.underlying22 rec_Clone_info rfl (by decide) rfl

set_option maxRecDepth 100000 in
set_option maxHeartbeats 1000000 in
theorem ref57_Add (I : IH) (v : Value) (l : List Rec) (hv : RdS tRec I v l) (hl : ∀ r ∈ l, r.Wf) (hn : l.length ≤ 1000000) (r : Rec) (hr : r.Wf) (w : World) (hw : Ok I w) :
    Calls Tryd.prog 16 #[v, r.v] w (RetL tRec I w (refAdd l r).1 (refAdd l r).2) := by
  obtain ⟨ao, cap, rfl, hcap, hcm, _⟩ := id hv
  have Hv := Lib.hid hv; clear hv
  have Hl := Lib.hid hl; clear hl
  have Hr := Lib.hid hr; clear hr
  by_cases h0 : recValid r = 0
  · have Hst := Lib.hid (show refAdd l r = refAddGo r false [] l by rw [refAdd, if_neg (by simpa using h0)])
    go_enter Tryd.func16, Tryd.ntmps16
    go_wp2_with fail
    refine (ref57_valid r Hr.out _).mono ?_
    rintro e w1 ⟨rfl, hb1⟩
    rw [h0]
    obtain ⟨hx0, hx1, hx2⟩ := recBox rfl hb1
    have hb1' : Below w.heap.size w w1 := ((Below.refl _ _).alloc (Nat.le_refl _) _).trans (hb1.mono (by simp))
    have hw1 : Ok I w1 := hw.below (Nat.le_refl _) hb1'
    have hz1 : w.heap.size < w1.heap.size := by have := hb1.size; simp at this; omega
    clear hb1 h0
    go_wp2_with fail
    go_loopw [7, 8, 19] (fun s7 s8 s19 wr => ∃ (k : Nat) (out : List Rec) (d : Bool), k ≤ l.length ∧ s8 = .bool d ∧ s19 = .int .i64 k ∧ OwnS tRec 25 I wr w1.heap.size s7 out ∧ out.length ≤ 2 * k ∧ refAddGo r d out (l.drop k) = refAdd l r ∧ Below w1.heap.size w1 wr) (fun _ _ i _ => l.length - (intOf i).toNat)
    case atStart =>
      refine ⟨0, [], false, Nat.zero_le _, rfl, rfl, ?_, by simp, Hst.out.symm, (Below.refl _ _).alloc (Nat.le_refl _) _⟩
      exact ⟨[], World.ownsRow_made w1 #[] 0 (Nat.le_refl _) (Nat.zero_le _) (by simp), LiesL.nil _ _⟩
    case round =>
      obtain ⟨k, out, d, hk, rfl, rfl, hown, hol, hrr, hb⟩ := hrel
      have Hrr := Lib.hid hrr; clear hrr
      by_cases hlt : k < l.length
      · have hwr : Ok I wr := hw1.below (Nat.le_refl _) hb
        obtain ⟨x, b, off, cap', hlx, hvv, hc0, hc1, hc2⟩ := recAt Hv.out hwr k hlt
        cases hvv
        have Hxw := Lib.hid (Hl.out x (by rw [← hlx]; exact List.getElem_mem hlt))
        have hst : refAdd l r = if recKey x = recKey r then (if x.d = r.d then refAddGo r true (out ++ [x]) (l.drop (k+1)) else ([], 20))
            else if !d && strGt (recKey x) (recKey r) then refAddGo r true (out ++ [r] ++ [x]) (l.drop (k+1)) else refAddGo r d (out ++ [x]) (l.drop (k+1)) := by
          rw [← Hrr.out, List.drop_eq_getElem_cons hlt, hlx]; rfl
        have Hst2 := Lib.hid hst; clear hst hlx
        have hr0 : wr.cell? ⟨w.heap.size, 0, none⟩ = some (.int .u32 r.a) := cell_thru hb hx0
        have hr1 : wr.cell? ⟨w.heap.size, 1, none⟩ = some (.int .i64 r.s) := cell_thru hb hx1
        have hr2 : wr.cell? ⟨w.heap.size, 2, none⟩ = some (S r.d) := cell_thru hb hx2
        have hg0 := cell_regrown (show (wr.alloc (.cells #[.int .u32 x.a, .int .i64 x.s, S x.d] 25)).cell? ⟨wr.heap.size, 0, none⟩ = some (.int .u32 x.a) by simp)
        have hg1 := cell_regrown (show (wr.alloc (.cells #[.int .u32 x.a, .int .i64 x.s, S x.d] 25)).cell? ⟨wr.heap.size, 1, none⟩ = some (.int .i64 x.s) by simp)
        have hg2 := cell_regrown (show (wr.alloc (.cells #[.int .u32 x.a, .int .i64 x.s, S x.d] 25)).cell? ⟨wr.heap.size, 2, none⟩ = some (S x.d) by simp)
        have hs0 := cell_regrown (cell_past (.cells #[.int .u32 x.a, .int .i64 x.s, S x.d] 25) hr0)
        have hs1 := cell_regrown (cell_past (.cells #[.int .u32 x.a, .int .i64 x.s, S x.d] 25) hr1)
        have hs2 := cell_regrown (cell_past (.cells #[.int .u32 x.a, .int .i64 x.s, S x.d] 25) hr2)
        have hown1 := hown.alloc (.cells #[.int .u32 x.a, .int .i64 x.s, S x.d] 25)
        by_cases hk : recKey x = recKey r
        · have hd2 : (recKey x == recKey r) = true := by simpa using hk
          go_wp2_with fail
          refine wp_region_quiet_below (by kernel_rfl) (by kernel_rfl) ?_
          repeat (go_big_quiet_step ((with_reducible first | exact Calls.regrown_of (ref57_Key x Hxw.out _) | exact Calls.regrown_of (ref57_Key r Hr.out _))))
          refine wpQuiet_nil ?_
          intro w4 hwq
          have hb4 : Below (wr.alloc (.cells #[.int .u32 x.a, .int .i64 x.s, S x.d] 25)).heap.size (wr.alloc (.cells #[.int .u32 x.a, .int .i64 x.s, S x.d] 25)) w4 := by
            obtain ⟨pq, rfl⟩ := hwq
            exact below_regrown _ _ _
          clear hwq
          have hb4' : Below w1.heap.size w1 w4 := (hb.alloc hb.size _).trans (hb4.mono (by have := hb.size; simp; omega))
          obtain ⟨hx0', hx1', hx2'⟩ := recBox rfl hb4
          have hr0' := cell_thru hb4 (cell_past _ hr0)
          have hr1' := cell_thru hb4 (cell_past _ hr1)
          have hr2' := cell_thru hb4 (cell_past _ hr2)
          have hown4 := hown1.below hb4
          by_cases hdd : x.d = r.d
          · have hd3 : (x.d == r.d) = true := by simpa using hdd
            have Hfin := Lib.hid (show refAddGo r true (out ++ [x]) (l.drop (k+1)) = refAdd l r by rw [Hst2.out, if_pos hk, if_pos hdd])
            clear hk hdd
            go_wp2_with fail
            refine wp_region_quiet_below (by kernel_rfl) (by kernel_rfl) ?_
            repeat (go_big_quiet_step ((fail)))
            refine wpQuiet_nil ?_
            intro w6 hwq
            have hb6 : Below (w4).heap.size (w4) w6 := by
              obtain ⟨pq, rfl⟩ := hwq
              exact below_regrown _ _ _
            clear hwq
            have hb6' : Below w1.heap.size w1 w6 := hb4'.trans (hb6.mono hb4'.size)
            have hr0'' := cell_thru hb6 hx0'
            have hr1'' := cell_thru hb6 hx1'
            have hr2'' := cell_thru hb6 hx2'
            have hown6 := hown4.below hb6
            go_wp2_with (at_builtin; refine wpList_append1 (w0 := w6) rec_elem rfl _ _ rfl _ _ _ rfl hown6 x [.int .u32 x.a, .int .i64 x.s, S x.d] _ rfl rfl (by (try simp only [List.length_append, List.length_singleton]); omega) (by (try simp only [List.length_append, List.length_singleton]); omega) (Below.size hb6') ?_)
            intro v5 w5 hown5 hg5
            have hb5 := Below.own hb6' hg5 hown6 (Nat.le_refl _) (Below.size hb6')
            go_wp2
            go_roundw
            case rel => exact ⟨k + 1, _, true, by omega, rfl, by go_num, hown5, (by simp only [List.length_append, List.length_cons, List.length_nil]; omega), Hfin.out, hb5⟩
            case measure => simp [intOf]; omega
          · have hd3 : (x.d == r.d) = false := by simpa using hdd
            have Hfin := Lib.hid (show refAdd l r = ([], 20) by rw [Hst2.out, if_pos hk, if_neg hdd])
            clear hk hdd
            go_wp2
            go_ret2
            have hb4'' := hb1'.trans (hb4'.mono hb1'.size)
            rw [Hfin.out]
            exact ⟨_, I, rfl, hb4'', Ext.refl _ _, hw.below (Nat.le_refl _) hb4'', RdS.nil _ _⟩
        · have hd2 : (recKey x == recKey r) = false := by simpa using hk
          go_wp2_with fail
          refine wp_region_quiet_below (by kernel_rfl) (by kernel_rfl) ?_
          repeat (go_big_quiet_step ((with_reducible first | exact Calls.regrown_of (ref57_Key x Hxw.out _) | exact Calls.regrown_of (ref57_Key r Hr.out _))))
          refine wpQuiet_nil ?_
          intro w4 hwq
          have hb4 : Below (wr.alloc (.cells #[.int .u32 x.a, .int .i64 x.s, S x.d] 25)).heap.size (wr.alloc (.cells #[.int .u32 x.a, .int .i64 x.s, S x.d] 25)) w4 := by
            obtain ⟨pq, rfl⟩ := hwq
            exact below_regrown _ _ _
          clear hwq
          have hb4' : Below w1.heap.size w1 w4 := (hb.alloc hb.size _).trans (hb4.mono (by have := hb.size; simp; omega))
          obtain ⟨hx0', hx1', hx2'⟩ := recBox rfl hb4
          have hr0' := cell_thru hb4 (cell_past _ hr0)
          have hr1' := cell_thru hb4 (cell_past _ hr1)
          have hr2' := cell_thru hb4 (cell_past _ hr2)
          have hown4 := hown1.below hb4
          cases d with
          | true =>
            have Hfin := Lib.hid (show refAddGo r true (out ++ [x]) (l.drop (k+1)) = refAdd l r by rw [Hst2.out, if_neg hk]; rfl)
            clear hk
            go_wp2_with fail
            refine wp_region_quiet_below (by kernel_rfl) (by kernel_rfl) ?_
            repeat (go_big_quiet_step ((fail)))
            refine wpQuiet_nil ?_
            intro w6 hwq
            have hb6 : Below (w4).heap.size (w4) w6 := by
              obtain ⟨pq, rfl⟩ := hwq
              exact below_regrown _ _ _
            clear hwq
            have hb6' : Below w1.heap.size w1 w6 := hb4'.trans (hb6.mono hb4'.size)
            have hr0'' := cell_thru hb6 hx0'
            have hr1'' := cell_thru hb6 hx1'
            have hr2'' := cell_thru hb6 hx2'
            have hown6 := hown4.below hb6
            go_wp2_with (at_builtin; refine wpList_append1 (w0 := w6) rec_elem rfl _ _ rfl _ _ _ rfl hown6 x [.int .u32 x.a, .int .i64 x.s, S x.d] _ rfl rfl (by (try simp only [List.length_append, List.length_singleton]); omega) (by (try simp only [List.length_append, List.length_singleton]); omega) (Below.size hb6') ?_)
            intro v5 w5 hown5 hg5
            have hb5 := Below.own hb6' hg5 hown6 (Nat.le_refl _) (Below.size hb6')
            go_wp2
            go_roundw
            case rel => exact ⟨k + 1, _, true, by omega, rfl, by go_num, hown5, (by simp only [List.length_append, List.length_cons, List.length_nil]; omega), Hfin.out, hb5⟩
            case measure => simp [intOf]; omega
          | false =>
            have hp0 := cell_regrown hx0'
            have hp1 := cell_regrown hx1'
            have hp2 := cell_regrown hx2'
            have ho0 := cell_regrown hr0'
            have ho1 := cell_regrown hr1'
            have ho2 := cell_regrown hr2'
            cases hbl : Op.bytesLess (recKey x) (recKey r) with
            | false =>
              have hgt : strGt (recKey x) (recKey r) = true := by rw [strGt, hbl, hd2]; rfl
              have Hfin := Lib.hid (show refAddGo r true (out ++ [r, x]) (l.drop (k+1)) = refAdd l r by rw [Hst2.out, if_neg hk, hgt, List.append_assoc]; rfl)
              clear hk hgt
              go_wp2_with fail
              refine wp_region_quiet_below (by kernel_rfl) (by kernel_rfl) ?_
              repeat (go_big_quiet_step ((with_reducible first | exact Calls.regrown_of (ref57_Key x Hxw.out _) | exact Calls.regrown_of (ref57_Key r Hr.out _))))
              refine wpQuiet_nil ?_
              intro w6 hwq
              have hb6 : Below (w4).heap.size (w4) w6 := by
                obtain ⟨pq, rfl⟩ := hwq
                exact below_regrown _ _ _
              clear hwq
              have hb6' : Below w1.heap.size w1 w6 := hb4'.trans (hb6.mono hb4'.size)
              have hr0'' := cell_thru hb6 hr0'
              have hr1'' := cell_thru hb6 hr1'
              have hr2'' := cell_thru hb6 hr2'
              have hx0'' := cell_thru hb6 hx0'
              have hx1'' := cell_thru hb6 hx1'
              have hx2'' := cell_thru hb6 hx2'
              have hown6 := hown4.below hb6
              have hnx := hown.ne_ge (Nat.le_refl _)
              go_wp2_with (at_builtin; refine wpList_append1 (w0 := w6) rec_elem rfl _ _ rfl _ _ _ rfl hown6 r [.int .u32 r.a, .int .i64 r.s, S r.d] _ rfl rfl (by (try simp only [List.length_append, List.length_singleton]); omega) (by (try simp only [List.length_append, List.length_singleton]); omega) hb6'.size ?_)
              intro v7 w7 hown7 hg7
              have hb7 := Below.own hb6' hg7 hown6 (Nat.le_refl _) hb6'.size
              have hz0 := cell_own hg7 hnx hx0''
              have hz1 := cell_own hg7 hnx hx1''
              have hz2 := cell_own hg7 hnx hx2''
              go_wp2_with (at_builtin; refine wpList_append1 (w0 := w7) rec_elem rfl _ _ rfl _ _ _ rfl hown7 x [.int .u32 x.a, .int .i64 x.s, S x.d] _ rfl rfl (by (try simp only [List.length_append, List.length_singleton]); omega) (by (try simp only [List.length_append, List.length_singleton]); omega) (Below.size hb7) ?_)
              intro v5 w5 hown5 hg5
              have hb5 := Below.own hb7 hg5 hown7 (Nat.le_refl _) (Below.size hb7)
              go_wp2
              go_roundw
              case rel => exact ⟨k + 1, _, true, by omega, rfl, by go_num, hown5, (by simp only [List.length_append, List.length_cons, List.length_nil]; omega), Hfin.out, hb5⟩
              case measure => simp [intOf]; omega
            | true =>
              have hgt : strGt (recKey x) (recKey r) = false := by rw [strGt, hbl]; rfl
              have Hfin := Lib.hid (show refAddGo r false (out ++ [x]) (l.drop (k+1)) = refAdd l r by rw [Hst2.out, if_neg hk, hgt]; rfl)
              clear hk hgt
              go_wp2_with fail
              refine wp_region_quiet_below (by kernel_rfl) (by kernel_rfl) ?_
              repeat (go_big_quiet_step ((with_reducible first | exact Calls.regrown_of (ref57_Key x Hxw.out _) | exact Calls.regrown_of (ref57_Key r Hr.out _))))
              refine wpQuiet_nil ?_
              intro w6 hwq
              have hb6 : Below (w4).heap.size (w4) w6 := by
                obtain ⟨pq, rfl⟩ := hwq
                exact below_regrown _ _ _
              clear hwq
              have hb6' : Below w1.heap.size w1 w6 := hb4'.trans (hb6.mono hb4'.size)
              have hr0'' := cell_thru hb6 hr0'
              have hr1'' := cell_thru hb6 hr1'
              have hr2'' := cell_thru hb6 hr2'
              have hx0'' := cell_thru hb6 hx0'
              have hx1'' := cell_thru hb6 hx1'
              have hx2'' := cell_thru hb6 hx2'
              have hown6 := hown4.below hb6
              go_wp2_with (at_builtin; refine wpList_append1 (w0 := w6) rec_elem rfl _ _ rfl _ _ _ rfl hown6 x [.int .u32 x.a, .int .i64 x.s, S x.d] _ rfl rfl (by (try simp only [List.length_append, List.length_singleton]); omega) (by (try simp only [List.length_append, List.length_singleton]); omega) (Below.size hb6') ?_)
              intro v5 w5 hown5 hg5
              have hb5 := Below.own hb6' hg5 hown6 (Nat.le_refl _) (Below.size hb6')
              go_wp2
              go_roundw
              case rel => exact ⟨k + 1, _, false, by omega, rfl, by go_num, hown5, (by simp only [List.length_append, List.length_cons, List.length_nil]; omega), Hfin.out, hb5⟩
              case measure => simp [intOf]; omega
      · have hlk : l.drop k = [] := List.drop_of_length_le (by omega)
        cases d with
        | true =>
          have Hfin := Lib.hid (show refAdd l r = (out, 0) by rw [← Hrr.out, hlk]; rfl)
          clear hlk
          go_wp2_with fail
          go_ret2
          obtain ⟨I', hI1, hI2, hI3, _⟩ := hown.freeze (hw1.below (Nat.le_refl _) hb) (fun b hb => hw1.fresh hb)
          rw [Hfin.out]
          exact ⟨_, I', rfl, hb1'.trans (hb.mono hb1'.size), hI1.mono hb1'.size, hI2, hI3⟩
        | false =>
          have Hfin := Lib.hid (show refAdd l r = (out ++ [r], 0) by rw [← Hrr.out, hlk]; rfl)
          clear hlk
          have hr0 : wr.cell? ⟨w.heap.size, 0, none⟩ = some (.int .u32 r.a) := cell_thru hb hx0
          have hr1 : wr.cell? ⟨w.heap.size, 1, none⟩ = some (.int .i64 r.s) := cell_thru hb hx1
          have hr2 : wr.cell? ⟨w.heap.size, 2, none⟩ = some (S r.d) := cell_thru hb hx2
          go_wp2_with (at_builtin; refine wpList_append1 (w0 := wr) rec_elem rfl _ _ rfl _ _ _ rfl hown r [.int .u32 r.a, .int .i64 r.s, S r.d] _ rfl rfl (by (try simp only [List.length_append, List.length_singleton]); omega) (by (try simp only [List.length_append, List.length_singleton]); omega) hb.size ?_)
          intro v5 w5 hown5 hg5
          have hb5 := Below.own hb hg5 hown (Nat.le_refl _) hb.size
          go_wp2
          go_ret2
          obtain ⟨I', hI1, hI2, hI3, _⟩ := hown5.freeze (hw1.below (Nat.le_refl _) hb5) (fun b hb => hw1.fresh hb)
          rw [Hfin.out]
          exact ⟨v5, I', rfl, hb1'.trans (hb5.mono hb1'.size), hI1.mono hb1'.size, hI2, hI3⟩
  · obtain ⟨q, hq⟩ : ∃ q, recValid r = q := ⟨_, rfl⟩
    have hn0 : (q != 0) = true := by rw [← hq]; simpa using h0
    have Hst := Lib.hid (show refAdd l r = ([], q) by rw [refAdd, if_pos h0, hq])
    have Hq := Lib.hid hq; clear hq h0
    go_enter Tryd.func16, Tryd.ntmps16
    go_wp2_with fail
    refine (ref57_valid r Hr.out _).mono ?_
    rintro e w1 ⟨rfl, hb1⟩
    rw [Hq.out]
    go_wp2
    go_ret2
    have hb1' : Below w.heap.size w w1 := ((Below.refl _ _).alloc (Nat.le_refl _) _).trans (hb1.mono (by simp))
    rw [Hst.out]
    exact ⟨_, I, rfl, hb1', Ext.refl _ _, hw.below (Nat.le_refl _) hb1', RdS.nil _ _⟩
end Go.Proofs.YtmapjaihkmjmmaaDoor
