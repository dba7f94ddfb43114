/-
  Walks of layer 57: Summary.
-/
import Derived.Test.YtmapjaihkmjmmaaDoorPlainD
import Derived.Test.YtmapjaihkmjmmaaDoorNet
import Derived.Test.YtmapjaihkmjmmaaDoorBlkS
import Derived.Test.YtmapjaihkmjmmaaDoorLawA
namespace Go.Proofs.YtmapjaihkmjmmaaDoor
open Go.RowKit

/-- The text of a record, of records. -/
def recTextOne (r : Rec) : Bytes := netsP [recKey r, r.d]
def recText (l : List Rec) : Bytes := l.flatMap recTextOne
theorem recText_snoc (l : List Rec) (x : Rec) : recText (l ++ [x]) = recText l ++ recTextOne x := by simp [recText]
theorem netP_length (s : Bytes) (h : s.length ≤ 140737488355200) : (netP s).length ≤ s.length + 18 := by
  have := itoa_len s.length (by omega)
  simp only [netP, List.length_append, List.length_cons, List.length_nil]
  omega
theorem recKey_length (r : Rec) : (recKey r).length ≤ 14 := by
  unfold recKey
  split
  · simp [refDigits_length]
  · simp
theorem recTextOne_length {r : Rec} (h : recValid r = 0) : (recTextOne r).length ≤ 100 := by
  obtain ⟨_, _, h3⟩ := recValid_ok h
  have h1 := recKey_length r
  have h4 := netP_length (recKey r) (by omega)
  have h5 := netP_length r.d (by omega)
  simp only [recTextOne, netsP, List.length_append, List.length_nil]
  omega
theorem recText_length {l : List Rec} (h : ∀ r ∈ l, recValid r = 0) : (recText l).length ≤ 100 * l.length := by
  induction l with
  | nil => simp [recText]
  | cons x l ih =>
    have h1 := recTextOne_length (h x (List.mem_cons_self ..))
    have h2 := ih fun r hr => h r (List.mem_cons_of_mem _ hr)
    simp only [recText, List.flatMap_cons, List.length_append, List.length_cons] at h2 ⊢
    omega

/-- A summary as a value. -/
abbrev sumV (f t : Bytes) (l : List Rec) : Value := .agg #[S f, S t, .int .i64 l.length, S (sumP (recText l))]

theorem slot_nil {t : Bytes} (h : t = []) : (t == []) = true := by rw [h]; rfl

/-- An empty summary's cells. -/
def sumZero : Array Value := #[.string ⟨#[]⟩, .string ⟨#[]⟩, .int .i64 0, .string ⟨#[]⟩]

/-- A builder fresh or written, the text so far, the result's cells, and old memory. -/
structure SumM (w : World) (B : Nat) (s : Bytes) (X : World) : Prop where
  bd : Lib.IsBuilder 56 5 B B (Lib.byteCells s) X
  res : X.heap[w.heap.size]? = some (.cells sumZero 37 (0, 0))
  below : Below w.heap.size w X
  le : w.heap.size < B
  lt : B < X.heap.size

set_option maxRecDepth 100000 in
set_option maxHeartbeats 1000000 in
theorem cat_Summary (I : IH) (hI : Glob I) (v : Value) (l : List Rec) (hv : RdS tRec I v l) (hl : ∀ r ∈ l, r.Wf) (hn : l.length ≤ 1000000) (hr : Rises l) (hval : ∀ r ∈ l, recValid r = 0) (f t : Bytes) (w : World) (hw : Ok I w) :
    Calls Tryd.prog 18 #[v, S f, S t] w fun e w' => e = .returned (sumV f t (recIn l f t)) ∧ Below w.heap.size w w' := by
  obtain ⟨ao, cap, rfl, hcap, hcm, hao⟩ := id hv
  have hb12 := recLast_bounds l f t
  have Hin := Lib.hid (recIn_eq hr f t)
  have Hlen := Lib.hid (recIn_length hr f t)
  have Hv := Lib.hid hv; clear hv
  have Hl := Lib.hid hl; clear hl
  have Hval := Lib.hid hval; clear hval
  have Hr := Lib.hid hr; clear hr
  obtain ⟨i, hi⟩ : ∃ i, recFirst l f = i := ⟨_, rfl⟩
  obtain ⟨j, hj⟩ : ∃ j, recLast l f t = j := ⟨_, rfl⟩
  rw [hi, hj] at hb12 Hin Hlen
  obtain ⟨hij, hjn⟩ := hb12
  have Hi := Lib.hid hi; clear hi
  by_cases ht : t = []
  · have hj2 : j = l.length := by rw [← hj, recLast, if_pos ht]
    clear hj
    subst hj2
    have ht1 : t.isEmpty = true := by rw [ht]; rfl
    have ht2 : (!t.isEmpty) = false := by rw [ht]; rfl
    have ht3 : (t == []) = true := by rw [ht]; rfl
    clear ht
    by_cases hlt : i < l.length
    · obtain ⟨b, off, arr, rfl, _⟩ := hao (by omega)
      clear hao
      go_enter Tryd.func18, Tryd.ntmps18
      go_wp2_with fail
      refine (cat_index I hI _ l Hv.out Hl.out hn f _ (hw.alloc _)).mono ?_
      rintro e w1 ⟨rfl, hb1⟩
      rw [show recIndex l f = i from Hi.out]
      have Hb1 := Lib.hid (show w1.heap[w.heap.size]? = some (.cells sumZero 37 (0, 0)) ∧ Below w.heap.size w w1 from ⟨(hb1.block _ (by simp)).trans (heap_alloc_new w _), ((Below.refl _ _).alloc (Nat.le_refl _) _).trans (hb1.mono (by simp))⟩)
      go_wp2_with fail
      have hz1 := hb1.size
      simp only [World.size_alloc] at hz1
      have hm0 : SumM w w1.heap.size (recText ((l.drop i).take 0)) (w1.alloc (.cells #[.pointer none, .slice none 0 0] 56)) :=
        ⟨Lib.fresh_isBuilder _ _ w1, (Below.heap_alloc _ _ _ (by omega)).trans Hb1.out.1, Hb1.out.2.alloc (by omega) _, by omega, by simp⟩
      clear hb1 Hb1 hz1
      generalize w1.heap.size = B at hm0 ⊢
      generalize w1.alloc (.cells #[.pointer none, .slice none 0 0] 56) = w2 at hm0 ⊢
      go_loopw [29] (fun s29 wr => ∃ k : Nat, k ≤ l.length - i ∧ s29 = .int .i64 k ∧ SumM w B (recText ((l.drop i).take k)) wr) (fun s _ => (l.length - i) - (intOf s).toNat)
      case atStart => exact ⟨0, Nat.zero_le _, rfl, hm0⟩
      case round =>
        clear hm0
        obtain ⟨k, hk, rfl, hm⟩ := hrel
        have Hm := Lib.hid hm
        have hwr : Ok I wr := hw.below (Nat.le_refl _) hm.below
        have hsz := hm.lt
        have hle := hm.le
        clear hm
        by_cases hlk : k < l.length - i
        · obtain ⟨x, b', off', cap', hx, hvv, c0, c1, c2⟩ := recAt Hv.out hwr (i + k) (by omega)
          cases hvv
          rw [show off + (i + k) * 3 = off + i * 3 + k * 3 by omega] at c0 c1 c2
          have hxm : x ∈ l := by rw [← hx]; exact List.getElem_mem _
          have Hxw := Lib.hid (Hl.out x hxm)
          have Hxl := Lib.hid (recTextOne_length (Hval.out x hxm))
          have hxd : x.d.length = 32 := (recValid_ok (Hval.out x hxm)).2.2
          have hkl : (recKey x).length ≤ 14 := recKey_length x
          have Htk := Lib.hid (show recText ((l.drop i).take (k + 1)) = recText ((l.drop i).take k) ++ recTextOne x by
            rw [List.take_succ_eq_append_getElem (by simp; omega), recText_snoc, List.getElem_drop, hx])
          have Htb := Lib.hid (show (recText ((l.drop i).take k)).length ≤ 100 * 1000000 by
            have h1 := recText_length (l := (l.drop i).take k) (fun r hr => Hval.out r (List.mem_of_mem_drop (List.mem_of_mem_take hr)))
            have h2 : ((l.drop i).take k).length ≤ l.length := by simp; omega
            omega)
          clear hx hxm
          go_wp2_with fail
          obtain ⟨k0, k1, k2⟩ := recBox (r := x) (T := 25) (W := wr) rfl (Below.refl _ _)
          have hok : Ok I (wr.alloc (.cells #[.int .u32 x.a, .int .i64 x.s, S x.d] 25)) := hwr.alloc _
          have k0 := cell_regrown k0
          have k1 := cell_regrown k1
          have k2 := cell_regrown k2
          refine wp_region_below_tail 4 (by kernel_rfl) (by kernel_rfl) ?_
          simp only [List.take_succ_cons, List.take_zero, List.drop_succ_cons, List.drop_zero]
          repeat (go_big_quiet_step ((with_reducible exact Calls.regrown_of (cat_Key I hI x Hxw.out _ (hok.below (Nat.le_refl _) (below_regrown _ _ _))))))
          refine wpQuiet_nil ?_
          intro w3 hwq
          have hb3 : Below (wr.alloc (.cells #[.int .u32 x.a, .int .i64 x.s, S x.d] 25)).heap.size (wr.alloc (.cells #[.int .u32 x.a, .int .i64 x.s, S x.d] 25)) w3 := by
            obtain ⟨pq, rfl⟩ := hwq
            exact below_regrown _ _ _
          clear hwq
          have hok3 : Ok I w3 := hok.below (Nat.le_refl _) hb3
          have hsz3 := hb3.size
          simp only [World.size_alloc] at hsz3
          have Hb3 := Lib.hid (show Below wr.heap.size wr w3 from ((Below.refl _ _).alloc (Nat.le_refl _) _).trans (hb3.mono (by simp)))
          clear k0 k1 k2 c0 c1 c2 hb3 hok
          go_wp2_with fail
          refine (net_Strings (I.add w3.heap.size #[S (recKey x), S x.d]) (hI.keep hok3 (Ext.add (Nat.le_refl _) I _)) _ [recKey x, x.d] ?_ ?_ _ ((hok3.alloc _).add (heap_alloc_new w3 _))).mono ?_
          · exact ⟨_, 2, rfl, by simp, by decide, fun _ => ⟨w3.heap.size, 0, #[S (recKey x), S x.d], rfl, by simp [IH.add], fun q hq => by
              match q, hq with
              | 0, _ => exact ⟨_, rfl, fun j u hu => by match j, hu with | 0, hu => simpa using hu⟩
              | 1, _ => exact ⟨_, rfl, fun j u hu => by match j, hu with | 0, hu => simpa [tStr, Ty.flat] using hu⟩⟩⟩
          · have := Hxl.out; unfold recTextOne at this; omega
          rintro e w4 ⟨rfl, hb4⟩
          rw [show netsP [recKey x, x.d] = recTextOne x from rfl]
          have hsz4 := hb4.size
          simp only [World.size_alloc] at hsz4
          have Hb4 := Lib.hid (show Below wr.heap.size wr w4 from Hb3.out.trans ((((Below.refl _ _).alloc (Nat.le_refl _) _).trans (hb4.mono (by simp))).mono (by omega)))
          clear hb4 Hb3
          go_wp2_with fail
          refine (Tryd.Builder_WriteString B B _ _ _ (builder_below Hm.out.bd Hb4.out) (by have := Hxl.out; have := Htb.out; rw [ByteArray.size_mk', List.size_toArray]; simp [Lib.byteCells]; omega) (by omega)).mono ?_
          rintro e w5 ⟨rfl, hbd5, hb5⟩
          have Hm5 : Hid (SumM w B (recText ((l.drop i).take (k + 1))) w5) := Lib.hid ⟨.inr (by
            have := hbd5
            rw [Lib.strCells_toArray, Lib.byteCells, Lib.byteCells, ← List.map_append, ← Htk.out] at this
            exact this), (hb5.block _ (by omega)).trans ((Hb4.out.block _ (by omega)).trans Hm.out.res), (Hm.out.below.trans (Hb4.out.mono (by omega))).trans (hb5.mono (by omega)), hle, hbd5.lt⟩
          clear hbd5 hb5 Hb4
          go_wp2
          go_roundw
          case rel => exact ⟨k + 1, by omega, by go_num, Hm5.out⟩
          case measure => simp [intOf]; omega
        · have Hin2 := Lib.hid (show recText ((l.drop i).take k) = recText (recIn l f t) by rw [Hin.out, show k = l.length - i by omega])
          have hlen2 : (l.length : Int) - i = ((recIn l f t).length : Int) := by have := Hlen.out; omega
          have hlen3 : IntKind.i64.wrap ((l.length : Int) - i) = ((recIn l f t).length : Int) := by rw [IntWalk.i64_in _ (by omega)]; exact hlen2
          have Hbd := Lib.hid (Hin2.out ▸ Hm.out.bd)
          have Hbl : Hid ((recText (recIn l f t)).length ≤ 140737488355328) := Lib.hid (by
            have h1 := recText_length (l := recIn l f t) (fun r hr => Hval.out r (List.mem_filter.1 hr).1)
            have h2 : (recIn l f t).length ≤ l.length := List.length_filter_le _ _
            omega)
          generalize hL : recIn l f t = L at Hbd Hbl hlen2 hlen3
          have HL := Lib.hid hL
          clear hL
          go_wp2_with fail
          refine (Tryd.Builder_String_any B B _ _ Hbd.out (Nat.le_of_lt hsz)).mono ?_
          rintro e w5 ⟨rfl, hb5⟩
          have hb5s := hb5.size
          have hr5 := (hb5.block _ hle).trans Hm.out.res
          have hw5 : Below w.heap.size w w5 := Hm.out.below.trans (hb5.mono (by omega))
          clear hb5 Hbd Hm
          have Hr5 := Lib.hid hr5
          have Hw5 := Lib.hid hw5
          clear hr5 hw5
          go_wp2_with fail
          refine (blk_Sum1 _ _ _ _ Hbl.out _ (by simp)).mono ?_
          rintro e w6 ⟨rfl, hb6⟩
          have h6s := hb6.size
          simp only [World.size_alloc] at h6s
          have h0 := (hb6.block _ (by simp; omega)).trans ((Below.heap_alloc _ _ _ (by omega)).trans Hr5.out)
          have Hw6 := Lib.hid ((Hw5.out.alloc (by omega) _).trans (hb6.mono (by simp; omega)))
          clear hb6 Hw5 Hr5
          have hi4 : (Tryd.prog.info? 37).map (·.size) = some (#[S f, S t, .int .i64 L.length, S (sumP (recText L))] : Array Value).size := by kernel_rfl
          have ho4 : (#[S f, S t, .int .i64 L.length, S (sumP (recText L))] : Array Value).all (·.oneCell') = true := by simp [Value.oneCell']
          go_wp2_with (refine wpList_store_row rfl 37 _ _ rfl w.heap.size #[S f, S t, .int .i64 L.length, S (sumP (recText L))] rfl rfl 37 sumZero h0 hi4 rfl ho4 ?_)
          try simp only [Exit.inBlock, Exit.then]
          refine bodyPost_ret (results_cell_row rfl _ _ w.heap.size _ #[S f, S t, .int .i64 L.length, S (sumP (recText L))] (0, 0) _ rfl (setRow_heap _ _ _ _ _ _ h0) Tryd.underlying37 rfl hi4) rfl ⟨by rw [HL.out], below_setRow Hw6.out (Nat.le_refl _) _⟩
    · have hie : l.length ≤ i := by omega
      clear hao
      by_cases hcc : i = cap
      · subst hcc
        go_enter Tryd.func18, Tryd.ntmps18
        go_wp2_with fail
        refine (cat_index I hI _ l Hv.out Hl.out hn f _ (hw.alloc _)).mono ?_
        rintro e w1 ⟨rfl, hb1⟩
        rw [show recIndex l f = i from Hi.out]
        have Hb1 := Lib.hid (show w1.heap[w.heap.size]? = some (.cells sumZero 37 (0, 0)) ∧ Below w.heap.size w w1 from ⟨(hb1.block _ (by simp)).trans (heap_alloc_new w _), ((Below.refl _ _).alloc (Nat.le_refl _) _).trans (hb1.mono (by simp))⟩)
        go_wp2_with fail
        have hz1 := hb1.size
        simp only [World.size_alloc] at hz1
        have hm0 : SumM w w1.heap.size (recText ((l.drop i).take 0)) (w1.alloc (.cells #[.pointer none, .slice none 0 0] 56)) :=
          ⟨Lib.fresh_isBuilder _ _ w1, (Below.heap_alloc _ _ _ (by omega)).trans Hb1.out.1, Hb1.out.2.alloc (by omega) _, by omega, by simp⟩
        clear hb1 Hb1 hz1
        generalize w1.heap.size = B at hm0 ⊢
        generalize w1.alloc (.cells #[.pointer none, .slice none 0 0] 56) = w2 at hm0 ⊢
        go_loopw [29] (fun s29 wr => ∃ k : Nat, k ≤ l.length - i ∧ s29 = .int .i64 k ∧ SumM w B (recText ((l.drop i).take k)) wr) (fun s _ => (l.length - i) - (intOf s).toNat)
        case atStart => exact ⟨0, Nat.zero_le _, rfl, hm0⟩
        case round =>
          clear hm0
          obtain ⟨k, hk, rfl, hm⟩ := hrel
          have Hm := Lib.hid hm
          have hwr : Ok I wr := hw.below (Nat.le_refl _) hm.below
          have hsz := hm.lt
          have hle := hm.le
          clear hm
          have hlk : ¬ k < l.length - i := by omega
          have Hin2 := Lib.hid (show recText ((l.drop i).take k) = recText (recIn l f t) by rw [Hin.out, show k = l.length - i by omega])
          have hlen2 : (l.length : Int) - i = ((recIn l f t).length : Int) := by have := Hlen.out; omega
          have hlen3 : IntKind.i64.wrap ((l.length : Int) - i) = ((recIn l f t).length : Int) := by rw [IntWalk.i64_in _ (by omega)]; exact hlen2
          have Hbd := Lib.hid (Hin2.out ▸ Hm.out.bd)
          have Hbl : Hid ((recText (recIn l f t)).length ≤ 140737488355328) := Lib.hid (by
            have h1 := recText_length (l := recIn l f t) (fun r hr => Hval.out r (List.mem_filter.1 hr).1)
            have h2 : (recIn l f t).length ≤ l.length := List.length_filter_le _ _
            omega)
          generalize hL : recIn l f t = L at Hbd Hbl hlen2 hlen3
          have HL := Lib.hid hL
          clear hL
          go_wp2_with fail
          refine (Tryd.Builder_String_any B B _ _ Hbd.out (Nat.le_of_lt hsz)).mono ?_
          rintro e w5 ⟨rfl, hb5⟩
          have hb5s := hb5.size
          have hr5 := (hb5.block _ hle).trans Hm.out.res
          have hw5 : Below w.heap.size w w5 := Hm.out.below.trans (hb5.mono (by omega))
          clear hb5 Hbd Hm
          have Hr5 := Lib.hid hr5
          have Hw5 := Lib.hid hw5
          clear hr5 hw5
          go_wp2_with fail
          refine (blk_Sum1 _ _ _ _ Hbl.out _ (by simp)).mono ?_
          rintro e w6 ⟨rfl, hb6⟩
          have h6s := hb6.size
          simp only [World.size_alloc] at h6s
          have h0 := (hb6.block _ (by simp; omega)).trans ((Below.heap_alloc _ _ _ (by omega)).trans Hr5.out)
          have Hw6 := Lib.hid ((Hw5.out.alloc (by omega) _).trans (hb6.mono (by simp; omega)))
          clear hb6 Hw5 Hr5
          have hi4 : (Tryd.prog.info? 37).map (·.size) = some (#[S f, S t, .int .i64 L.length, S (sumP (recText L))] : Array Value).size := by kernel_rfl
          have ho4 : (#[S f, S t, .int .i64 L.length, S (sumP (recText L))] : Array Value).all (·.oneCell') = true := by simp [Value.oneCell']
          go_wp2_with (refine wpList_store_row rfl 37 _ _ rfl w.heap.size #[S f, S t, .int .i64 L.length, S (sumP (recText L))] rfl rfl 37 sumZero h0 hi4 rfl ho4 ?_)
          try simp only [Exit.inBlock, Exit.then]
          refine bodyPost_ret (results_cell_row rfl _ _ w.heap.size _ #[S f, S t, .int .i64 L.length, S (sumP (recText L))] (0, 0) _ rfl (setRow_heap _ _ _ _ _ _ h0) Tryd.underlying37 rfl hi4) rfl ⟨by rw [HL.out], below_setRow Hw6.out (Nat.le_refl _) _⟩
      · go_enter Tryd.func18, Tryd.ntmps18
        go_wp2_with fail
        refine (cat_index I hI _ l Hv.out Hl.out hn f _ (hw.alloc _)).mono ?_
        rintro e w1 ⟨rfl, hb1⟩
        rw [show recIndex l f = i from Hi.out]
        have Hb1 := Lib.hid (show w1.heap[w.heap.size]? = some (.cells sumZero 37 (0, 0)) ∧ Below w.heap.size w w1 from ⟨(hb1.block _ (by simp)).trans (heap_alloc_new w _), ((Below.refl _ _).alloc (Nat.le_refl _) _).trans (hb1.mono (by simp))⟩)
        go_wp2_with fail
        have hz1 := hb1.size
        simp only [World.size_alloc] at hz1
        have hm0 : SumM w w1.heap.size (recText ((l.drop i).take 0)) (w1.alloc (.cells #[.pointer none, .slice none 0 0] 56)) :=
          ⟨Lib.fresh_isBuilder _ _ w1, (Below.heap_alloc _ _ _ (by omega)).trans Hb1.out.1, Hb1.out.2.alloc (by omega) _, by omega, by simp⟩
        clear hb1 Hb1 hz1
        generalize w1.heap.size = B at hm0 ⊢
        generalize w1.alloc (.cells #[.pointer none, .slice none 0 0] 56) = w2 at hm0 ⊢
        go_loopw [29] (fun s29 wr => ∃ k : Nat, k ≤ l.length - i ∧ s29 = .int .i64 k ∧ SumM w B (recText ((l.drop i).take k)) wr) (fun s _ => (l.length - i) - (intOf s).toNat)
        case atStart => exact ⟨0, Nat.zero_le _, rfl, hm0⟩
        case round =>
          clear hm0
          obtain ⟨k, hk, rfl, hm⟩ := hrel
          have Hm := Lib.hid hm
          have hwr : Ok I wr := hw.below (Nat.le_refl _) hm.below
          have hsz := hm.lt
          have hle := hm.le
          clear hm
          have hlk : ¬ k < l.length - i := by omega
          have Hin2 := Lib.hid (show recText ((l.drop i).take k) = recText (recIn l f t) by rw [Hin.out, show k = l.length - i by omega])
          have hlen2 : (l.length : Int) - i = ((recIn l f t).length : Int) := by have := Hlen.out; omega
          have hlen3 : IntKind.i64.wrap ((l.length : Int) - i) = ((recIn l f t).length : Int) := by rw [IntWalk.i64_in _ (by omega)]; exact hlen2
          have Hbd := Lib.hid (Hin2.out ▸ Hm.out.bd)
          have Hbl : Hid ((recText (recIn l f t)).length ≤ 140737488355328) := Lib.hid (by
            have h1 := recText_length (l := recIn l f t) (fun r hr => Hval.out r (List.mem_filter.1 hr).1)
            have h2 : (recIn l f t).length ≤ l.length := List.length_filter_le _ _
            omega)
          generalize hL : recIn l f t = L at Hbd Hbl hlen2 hlen3
          have HL := Lib.hid hL
          clear hL
          go_wp2_with fail
          refine (Tryd.Builder_String_any B B _ _ Hbd.out (Nat.le_of_lt hsz)).mono ?_
          rintro e w5 ⟨rfl, hb5⟩
          have hb5s := hb5.size
          have hr5 := (hb5.block _ hle).trans Hm.out.res
          have hw5 : Below w.heap.size w w5 := Hm.out.below.trans (hb5.mono (by omega))
          clear hb5 Hbd Hm
          have Hr5 := Lib.hid hr5
          have Hw5 := Lib.hid hw5
          clear hr5 hw5
          go_wp2_with fail
          refine (blk_Sum1 _ _ _ _ Hbl.out _ (by simp)).mono ?_
          rintro e w6 ⟨rfl, hb6⟩
          have h6s := hb6.size
          simp only [World.size_alloc] at h6s
          have h0 := (hb6.block _ (by simp; omega)).trans ((Below.heap_alloc _ _ _ (by omega)).trans Hr5.out)
          have Hw6 := Lib.hid ((Hw5.out.alloc (by omega) _).trans (hb6.mono (by simp; omega)))
          clear hb6 Hw5 Hr5
          have hi4 : (Tryd.prog.info? 37).map (·.size) = some (#[S f, S t, .int .i64 L.length, S (sumP (recText L))] : Array Value).size := by kernel_rfl
          have ho4 : (#[S f, S t, .int .i64 L.length, S (sumP (recText L))] : Array Value).all (·.oneCell') = true := by simp [Value.oneCell']
          go_wp2_with (refine wpList_store_row rfl 37 _ _ rfl w.heap.size #[S f, S t, .int .i64 L.length, S (sumP (recText L))] rfl rfl 37 sumZero h0 hi4 rfl ho4 ?_)
          try simp only [Exit.inBlock, Exit.then]
          refine bodyPost_ret (results_cell_row rfl _ _ w.heap.size _ #[S f, S t, .int .i64 L.length, S (sumP (recText L))] (0, 0) _ rfl (setRow_heap _ _ _ _ _ _ h0) Tryd.underlying37 rfl hi4) rfl ⟨by rw [HL.out], below_setRow Hw6.out (Nat.le_refl _) _⟩
  · have Hj := Lib.hid hj; clear hj
    have Ht := Lib.hid (show t ≠ [] from ht)
    have ht1 : t.isEmpty = false := by cases t <;> simp_all
    have ht2 : (!t.isEmpty) = true := by rw [ht1]; rfl
    have ht3 : (t == []) = false := by simpa using ht
    clear ht
    by_cases hlt : i < j
    · obtain ⟨b, off, arr, rfl, _⟩ := hao (by omega)
      clear hao
      go_enter Tryd.func18, Tryd.ntmps18
      go_wp2_with fail
      refine (cat_index I hI _ l Hv.out Hl.out hn f _ (hw.alloc _)).mono ?_
      rintro e w0 ⟨rfl, hb0⟩
      rw [show recIndex l f = i from Hi.out]
      have hok0 : Ok I w0 := (hw.alloc _).below (Nat.le_refl _) hb0
      go_wp2_with fail
      refine (cat_index I hI _ l Hv.out Hl.out hn t _ hok0).mono ?_
      rintro e w1 ⟨rfl, hb1'⟩
      obtain ⟨q, hq⟩ : ∃ q, recIndex l t = q := ⟨_, rfl⟩
      rw [hq]
      have hmax : max (i : Int) (q : Int) = (j : Int) := by have := Hj.out; rw [recLast, if_neg (fun h => Ht.out h), hq, show recIndex l f = i from Hi.out] at this; omega
      clear hq
      have hb1 := hb0.trans (hb1'.mono hb0.size)
      clear hb1' hb0 hok0
      have Hb1 := Lib.hid (show w1.heap[w.heap.size]? = some (.cells sumZero 37 (0, 0)) ∧ Below w.heap.size w w1 from ⟨(hb1.block _ (by simp)).trans (heap_alloc_new w _), ((Below.refl _ _).alloc (Nat.le_refl _) _).trans (hb1.mono (by simp))⟩)
      go_wp2_with fail
      have hz1 := hb1.size
      simp only [World.size_alloc] at hz1
      have hm0 : SumM w w1.heap.size (recText ((l.drop i).take 0)) (w1.alloc (.cells #[.pointer none, .slice none 0 0] 56)) :=
        ⟨Lib.fresh_isBuilder _ _ w1, (Below.heap_alloc _ _ _ (by omega)).trans Hb1.out.1, Hb1.out.2.alloc (by omega) _, by omega, by simp⟩
      clear hb1 Hb1 hz1
      generalize w1.heap.size = B at hm0 ⊢
      generalize w1.alloc (.cells #[.pointer none, .slice none 0 0] 56) = w2 at hm0 ⊢
      go_loopw [29] (fun s29 wr => ∃ k : Nat, k ≤ j - i ∧ s29 = .int .i64 k ∧ SumM w B (recText ((l.drop i).take k)) wr) (fun s _ => (j - i) - (intOf s).toNat)
      case atStart => exact ⟨0, Nat.zero_le _, rfl, hm0⟩
      case round =>
        clear hm0
        obtain ⟨k, hk, rfl, hm⟩ := hrel
        have Hm := Lib.hid hm
        have hwr : Ok I wr := hw.below (Nat.le_refl _) hm.below
        have hsz := hm.lt
        have hle := hm.le
        clear hm
        by_cases hlk : k < j - i
        · obtain ⟨x, b', off', cap', hx, hvv, c0, c1, c2⟩ := recAt Hv.out hwr (i + k) (by omega)
          cases hvv
          rw [show off + (i + k) * 3 = off + i * 3 + k * 3 by omega] at c0 c1 c2
          have hxm : x ∈ l := by rw [← hx]; exact List.getElem_mem _
          have Hxw := Lib.hid (Hl.out x hxm)
          have Hxl := Lib.hid (recTextOne_length (Hval.out x hxm))
          have hxd : x.d.length = 32 := (recValid_ok (Hval.out x hxm)).2.2
          have hkl : (recKey x).length ≤ 14 := recKey_length x
          have Htk := Lib.hid (show recText ((l.drop i).take (k + 1)) = recText ((l.drop i).take k) ++ recTextOne x by
            rw [List.take_succ_eq_append_getElem (by simp; omega), recText_snoc, List.getElem_drop, hx])
          have Htb := Lib.hid (show (recText ((l.drop i).take k)).length ≤ 100 * 1000000 by
            have h1 := recText_length (l := (l.drop i).take k) (fun r hr => Hval.out r (List.mem_of_mem_drop (List.mem_of_mem_take hr)))
            have h2 : ((l.drop i).take k).length ≤ l.length := by simp; omega
            omega)
          clear hx hxm
          go_wp2_with fail
          obtain ⟨k0, k1, k2⟩ := recBox (r := x) (T := 25) (W := wr) rfl (Below.refl _ _)
          have hok : Ok I (wr.alloc (.cells #[.int .u32 x.a, .int .i64 x.s, S x.d] 25)) := hwr.alloc _
          have k0 := cell_regrown k0
          have k1 := cell_regrown k1
          have k2 := cell_regrown k2
          refine wp_region_below_tail 4 (by kernel_rfl) (by kernel_rfl) ?_
          simp only [List.take_succ_cons, List.take_zero, List.drop_succ_cons, List.drop_zero]
          repeat (go_big_quiet_step ((with_reducible exact Calls.regrown_of (cat_Key I hI x Hxw.out _ (hok.below (Nat.le_refl _) (below_regrown _ _ _))))))
          refine wpQuiet_nil ?_
          intro w3 hwq
          have hb3 : Below (wr.alloc (.cells #[.int .u32 x.a, .int .i64 x.s, S x.d] 25)).heap.size (wr.alloc (.cells #[.int .u32 x.a, .int .i64 x.s, S x.d] 25)) w3 := by
            obtain ⟨pq, rfl⟩ := hwq
            exact below_regrown _ _ _
          clear hwq
          have hok3 : Ok I w3 := hok.below (Nat.le_refl _) hb3
          have hsz3 := hb3.size
          simp only [World.size_alloc] at hsz3
          have Hb3 := Lib.hid (show Below wr.heap.size wr w3 from ((Below.refl _ _).alloc (Nat.le_refl _) _).trans (hb3.mono (by simp)))
          clear k0 k1 k2 c0 c1 c2 hb3 hok
          go_wp2_with fail
          refine (net_Strings (I.add w3.heap.size #[S (recKey x), S x.d]) (hI.keep hok3 (Ext.add (Nat.le_refl _) I _)) _ [recKey x, x.d] ?_ ?_ _ ((hok3.alloc _).add (heap_alloc_new w3 _))).mono ?_
          · exact ⟨_, 2, rfl, by simp, by decide, fun _ => ⟨w3.heap.size, 0, #[S (recKey x), S x.d], rfl, by simp [IH.add], fun q hq => by
              match q, hq with
              | 0, _ => exact ⟨_, rfl, fun j u hu => by match j, hu with | 0, hu => simpa using hu⟩
              | 1, _ => exact ⟨_, rfl, fun j u hu => by match j, hu with | 0, hu => simpa [tStr, Ty.flat] using hu⟩⟩⟩
          · have := Hxl.out; unfold recTextOne at this; omega
          rintro e w4 ⟨rfl, hb4⟩
          rw [show netsP [recKey x, x.d] = recTextOne x from rfl]
          have hsz4 := hb4.size
          simp only [World.size_alloc] at hsz4
          have Hb4 := Lib.hid (show Below wr.heap.size wr w4 from Hb3.out.trans ((((Below.refl _ _).alloc (Nat.le_refl _) _).trans (hb4.mono (by simp))).mono (by omega)))
          clear hb4 Hb3
          go_wp2_with fail
          refine (Tryd.Builder_WriteString B B _ _ _ (builder_below Hm.out.bd Hb4.out) (by have := Hxl.out; have := Htb.out; rw [ByteArray.size_mk', List.size_toArray]; simp [Lib.byteCells]; omega) (by omega)).mono ?_
          rintro e w5 ⟨rfl, hbd5, hb5⟩
          have Hm5 : Hid (SumM w B (recText ((l.drop i).take (k + 1))) w5) := Lib.hid ⟨.inr (by
            have := hbd5
            rw [Lib.strCells_toArray, Lib.byteCells, Lib.byteCells, ← List.map_append, ← Htk.out] at this
            exact this), (hb5.block _ (by omega)).trans ((Hb4.out.block _ (by omega)).trans Hm.out.res), (Hm.out.below.trans (Hb4.out.mono (by omega))).trans (hb5.mono (by omega)), hle, hbd5.lt⟩
          clear hbd5 hb5 Hb4
          go_wp2
          go_roundw
          case rel => exact ⟨k + 1, by omega, by go_num, Hm5.out⟩
          case measure => simp [intOf]; omega
        · have Hin2 := Lib.hid (show recText ((l.drop i).take k) = recText (recIn l f t) by rw [Hin.out, show k = j - i by omega])
          have hlen2 : (j : Int) - i = ((recIn l f t).length : Int) := by have := Hlen.out; omega
          have hlen3 : IntKind.i64.wrap ((j : Int) - i) = ((recIn l f t).length : Int) := by rw [IntWalk.i64_in _ (by omega)]; exact hlen2
          have Hbd := Lib.hid (Hin2.out ▸ Hm.out.bd)
          have Hbl : Hid ((recText (recIn l f t)).length ≤ 140737488355328) := Lib.hid (by
            have h1 := recText_length (l := recIn l f t) (fun r hr => Hval.out r (List.mem_filter.1 hr).1)
            have h2 : (recIn l f t).length ≤ l.length := List.length_filter_le _ _
            omega)
          generalize hL : recIn l f t = L at Hbd Hbl hlen2 hlen3
          have HL := Lib.hid hL
          clear hL
          go_wp2_with fail
          refine (Tryd.Builder_String_any B B _ _ Hbd.out (Nat.le_of_lt hsz)).mono ?_
          rintro e w5 ⟨rfl, hb5⟩
          have hb5s := hb5.size
          have hr5 := (hb5.block _ hle).trans Hm.out.res
          have hw5 : Below w.heap.size w w5 := Hm.out.below.trans (hb5.mono (by omega))
          clear hb5 Hbd Hm
          have Hr5 := Lib.hid hr5
          have Hw5 := Lib.hid hw5
          clear hr5 hw5
          go_wp2_with fail
          refine (blk_Sum1 _ _ _ _ Hbl.out _ (by simp)).mono ?_
          rintro e w6 ⟨rfl, hb6⟩
          have h6s := hb6.size
          simp only [World.size_alloc] at h6s
          have h0 := (hb6.block _ (by simp; omega)).trans ((Below.heap_alloc _ _ _ (by omega)).trans Hr5.out)
          have Hw6 := Lib.hid ((Hw5.out.alloc (by omega) _).trans (hb6.mono (by simp; omega)))
          clear hb6 Hw5 Hr5
          have hi4 : (Tryd.prog.info? 37).map (·.size) = some (#[S f, S t, .int .i64 L.length, S (sumP (recText L))] : Array Value).size := by kernel_rfl
          have ho4 : (#[S f, S t, .int .i64 L.length, S (sumP (recText L))] : Array Value).all (·.oneCell') = true := by simp [Value.oneCell']
          go_wp2_with (refine wpList_store_row rfl 37 _ _ rfl w.heap.size #[S f, S t, .int .i64 L.length, S (sumP (recText L))] rfl rfl 37 sumZero h0 hi4 rfl ho4 ?_)
          try simp only [Exit.inBlock, Exit.then]
          refine bodyPost_ret (results_cell_row rfl _ _ w.heap.size _ #[S f, S t, .int .i64 L.length, S (sumP (recText L))] (0, 0) _ rfl (setRow_heap _ _ _ _ _ _ h0) Tryd.underlying37 rfl hi4) rfl ⟨by rw [HL.out], below_setRow Hw6.out (Nat.le_refl _) _⟩
    · have hie : j ≤ i := by omega
      clear hao
      by_cases hcc : i = cap
      · subst hcc
        go_enter Tryd.func18, Tryd.ntmps18
        go_wp2_with fail
        refine (cat_index I hI _ l Hv.out Hl.out hn f _ (hw.alloc _)).mono ?_
        rintro e w0 ⟨rfl, hb0⟩
        rw [show recIndex l f = i from Hi.out]
        have hok0 : Ok I w0 := (hw.alloc _).below (Nat.le_refl _) hb0
        go_wp2_with fail
        refine (cat_index I hI _ l Hv.out Hl.out hn t _ hok0).mono ?_
        rintro e w1 ⟨rfl, hb1'⟩
        obtain ⟨q, hq⟩ : ∃ q, recIndex l t = q := ⟨_, rfl⟩
        rw [hq]
        have hmax : max (i : Int) (q : Int) = (j : Int) := by have := Hj.out; rw [recLast, if_neg (fun h => Ht.out h), hq, show recIndex l f = i from Hi.out] at this; omega
        clear hq
        have hb1 := hb0.trans (hb1'.mono hb0.size)
        clear hb1' hb0 hok0
        have Hb1 := Lib.hid (show w1.heap[w.heap.size]? = some (.cells sumZero 37 (0, 0)) ∧ Below w.heap.size w w1 from ⟨(hb1.block _ (by simp)).trans (heap_alloc_new w _), ((Below.refl _ _).alloc (Nat.le_refl _) _).trans (hb1.mono (by simp))⟩)
        go_wp2_with fail
        have hz1 := hb1.size
        simp only [World.size_alloc] at hz1
        have hm0 : SumM w w1.heap.size (recText ((l.drop i).take 0)) (w1.alloc (.cells #[.pointer none, .slice none 0 0] 56)) :=
          ⟨Lib.fresh_isBuilder _ _ w1, (Below.heap_alloc _ _ _ (by omega)).trans Hb1.out.1, Hb1.out.2.alloc (by omega) _, by omega, by simp⟩
        clear hb1 Hb1 hz1
        generalize w1.heap.size = B at hm0 ⊢
        generalize w1.alloc (.cells #[.pointer none, .slice none 0 0] 56) = w2 at hm0 ⊢
        go_loopw [29] (fun s29 wr => ∃ k : Nat, k ≤ j - i ∧ s29 = .int .i64 k ∧ SumM w B (recText ((l.drop i).take k)) wr) (fun s _ => (j - i) - (intOf s).toNat)
        case atStart => exact ⟨0, Nat.zero_le _, rfl, hm0⟩
        case round =>
          clear hm0
          obtain ⟨k, hk, rfl, hm⟩ := hrel
          have Hm := Lib.hid hm
          have hwr : Ok I wr := hw.below (Nat.le_refl _) hm.below
          have hsz := hm.lt
          have hle := hm.le
          clear hm
          have hlk : ¬ k < j - i := by omega
          have Hin2 := Lib.hid (show recText ((l.drop i).take k) = recText (recIn l f t) by rw [Hin.out, show k = j - i by omega])
          have hlen2 : (j : Int) - i = ((recIn l f t).length : Int) := by have := Hlen.out; omega
          have hlen3 : IntKind.i64.wrap ((j : Int) - i) = ((recIn l f t).length : Int) := by rw [IntWalk.i64_in _ (by omega)]; exact hlen2
          have Hbd := Lib.hid (Hin2.out ▸ Hm.out.bd)
          have Hbl : Hid ((recText (recIn l f t)).length ≤ 140737488355328) := Lib.hid (by
            have h1 := recText_length (l := recIn l f t) (fun r hr => Hval.out r (List.mem_filter.1 hr).1)
            have h2 : (recIn l f t).length ≤ l.length := List.length_filter_le _ _
            omega)
          generalize hL : recIn l f t = L at Hbd Hbl hlen2 hlen3
          have HL := Lib.hid hL
          clear hL
          go_wp2_with fail
          refine (Tryd.Builder_String_any B B _ _ Hbd.out (Nat.le_of_lt hsz)).mono ?_
          rintro e w5 ⟨rfl, hb5⟩
          have hb5s := hb5.size
          have hr5 := (hb5.block _ hle).trans Hm.out.res
          have hw5 : Below w.heap.size w w5 := Hm.out.below.trans (hb5.mono (by omega))
          clear hb5 Hbd Hm
          have Hr5 := Lib.hid hr5
          have Hw5 := Lib.hid hw5
          clear hr5 hw5
          go_wp2_with fail
          refine (blk_Sum1 _ _ _ _ Hbl.out _ (by simp)).mono ?_
          rintro e w6 ⟨rfl, hb6⟩
          have h6s := hb6.size
          simp only [World.size_alloc] at h6s
          have h0 := (hb6.block _ (by simp; omega)).trans ((Below.heap_alloc _ _ _ (by omega)).trans Hr5.out)
          have Hw6 := Lib.hid ((Hw5.out.alloc (by omega) _).trans (hb6.mono (by simp; omega)))
          clear hb6 Hw5 Hr5
          have hi4 : (Tryd.prog.info? 37).map (·.size) = some (#[S f, S t, .int .i64 L.length, S (sumP (recText L))] : Array Value).size := by kernel_rfl
          have ho4 : (#[S f, S t, .int .i64 L.length, S (sumP (recText L))] : Array Value).all (·.oneCell') = true := by simp [Value.oneCell']
          go_wp2_with (refine wpList_store_row rfl 37 _ _ rfl w.heap.size #[S f, S t, .int .i64 L.length, S (sumP (recText L))] rfl rfl 37 sumZero h0 hi4 rfl ho4 ?_)
          try simp only [Exit.inBlock, Exit.then]
          refine bodyPost_ret (results_cell_row rfl _ _ w.heap.size _ #[S f, S t, .int .i64 L.length, S (sumP (recText L))] (0, 0) _ rfl (setRow_heap _ _ _ _ _ _ h0) Tryd.underlying37 rfl hi4) rfl ⟨by rw [HL.out], below_setRow Hw6.out (Nat.le_refl _) _⟩
      · go_enter Tryd.func18, Tryd.ntmps18
        go_wp2_with fail
        refine (cat_index I hI _ l Hv.out Hl.out hn f _ (hw.alloc _)).mono ?_
        rintro e w0 ⟨rfl, hb0⟩
        rw [show recIndex l f = i from Hi.out]
        have hok0 : Ok I w0 := (hw.alloc _).below (Nat.le_refl _) hb0
        go_wp2_with fail
        refine (cat_index I hI _ l Hv.out Hl.out hn t _ hok0).mono ?_
        rintro e w1 ⟨rfl, hb1'⟩
        obtain ⟨q, hq⟩ : ∃ q, recIndex l t = q := ⟨_, rfl⟩
        rw [hq]
        have hmax : max (i : Int) (q : Int) = (j : Int) := by have := Hj.out; rw [recLast, if_neg (fun h => Ht.out h), hq, show recIndex l f = i from Hi.out] at this; omega
        clear hq
        have hb1 := hb0.trans (hb1'.mono hb0.size)
        clear hb1' hb0 hok0
        have Hb1 := Lib.hid (show w1.heap[w.heap.size]? = some (.cells sumZero 37 (0, 0)) ∧ Below w.heap.size w w1 from ⟨(hb1.block _ (by simp)).trans (heap_alloc_new w _), ((Below.refl _ _).alloc (Nat.le_refl _) _).trans (hb1.mono (by simp))⟩)
        go_wp2_with fail
        have hz1 := hb1.size
        simp only [World.size_alloc] at hz1
        have hm0 : SumM w w1.heap.size (recText ((l.drop i).take 0)) (w1.alloc (.cells #[.pointer none, .slice none 0 0] 56)) :=
          ⟨Lib.fresh_isBuilder _ _ w1, (Below.heap_alloc _ _ _ (by omega)).trans Hb1.out.1, Hb1.out.2.alloc (by omega) _, by omega, by simp⟩
        clear hb1 Hb1 hz1
        generalize w1.heap.size = B at hm0 ⊢
        generalize w1.alloc (.cells #[.pointer none, .slice none 0 0] 56) = w2 at hm0 ⊢
        go_loopw [29] (fun s29 wr => ∃ k : Nat, k ≤ j - i ∧ s29 = .int .i64 k ∧ SumM w B (recText ((l.drop i).take k)) wr) (fun s _ => (j - i) - (intOf s).toNat)
        case atStart => exact ⟨0, Nat.zero_le _, rfl, hm0⟩
        case round =>
          clear hm0
          obtain ⟨k, hk, rfl, hm⟩ := hrel
          have Hm := Lib.hid hm
          have hwr : Ok I wr := hw.below (Nat.le_refl _) hm.below
          have hsz := hm.lt
          have hle := hm.le
          clear hm
          have hlk : ¬ k < j - i := by omega
          have Hin2 := Lib.hid (show recText ((l.drop i).take k) = recText (recIn l f t) by rw [Hin.out, show k = j - i by omega])
          have hlen2 : (j : Int) - i = ((recIn l f t).length : Int) := by have := Hlen.out; omega
          have hlen3 : IntKind.i64.wrap ((j : Int) - i) = ((recIn l f t).length : Int) := by rw [IntWalk.i64_in _ (by omega)]; exact hlen2
          have Hbd := Lib.hid (Hin2.out ▸ Hm.out.bd)
          have Hbl : Hid ((recText (recIn l f t)).length ≤ 140737488355328) := Lib.hid (by
            have h1 := recText_length (l := recIn l f t) (fun r hr => Hval.out r (List.mem_filter.1 hr).1)
            have h2 : (recIn l f t).length ≤ l.length := List.length_filter_le _ _
            omega)
          generalize hL : recIn l f t = L at Hbd Hbl hlen2 hlen3
          have HL := Lib.hid hL
          clear hL
          go_wp2_with fail
          refine (Tryd.Builder_String_any B B _ _ Hbd.out (Nat.le_of_lt hsz)).mono ?_
          rintro e w5 ⟨rfl, hb5⟩
          have hb5s := hb5.size
          have hr5 := (hb5.block _ hle).trans Hm.out.res
          have hw5 : Below w.heap.size w w5 := Hm.out.below.trans (hb5.mono (by omega))
          clear hb5 Hbd Hm
          have Hr5 := Lib.hid hr5
          have Hw5 := Lib.hid hw5
          clear hr5 hw5
          go_wp2_with fail
          refine (blk_Sum1 _ _ _ _ Hbl.out _ (by simp)).mono ?_
          rintro e w6 ⟨rfl, hb6⟩
          have h6s := hb6.size
          simp only [World.size_alloc] at h6s
          have h0 := (hb6.block _ (by simp; omega)).trans ((Below.heap_alloc _ _ _ (by omega)).trans Hr5.out)
          have Hw6 := Lib.hid ((Hw5.out.alloc (by omega) _).trans (hb6.mono (by simp; omega)))
          clear hb6 Hw5 Hr5
          have hi4 : (Tryd.prog.info? 37).map (·.size) = some (#[S f, S t, .int .i64 L.length, S (sumP (recText L))] : Array Value).size := by kernel_rfl
          have ho4 : (#[S f, S t, .int .i64 L.length, S (sumP (recText L))] : Array Value).all (·.oneCell') = true := by simp [Value.oneCell']
          go_wp2_with (refine wpList_store_row rfl 37 _ _ rfl w.heap.size #[S f, S t, .int .i64 L.length, S (sumP (recText L))] rfl rfl 37 sumZero h0 hi4 rfl ho4 ?_)
          try simp only [Exit.inBlock, Exit.then]
          refine bodyPost_ret (results_cell_row rfl _ _ w.heap.size _ #[S f, S t, .int .i64 L.length, S (sumP (recText L))] (0, 0) _ rfl (setRow_heap _ _ _ _ _ _ h0) Tryd.underlying37 rfl hi4) rfl ⟨by rw [HL.out], below_setRow Hw6.out (Nat.le_refl _) _⟩
end Go.Proofs.YtmapjaihkmjmmaaDoor
