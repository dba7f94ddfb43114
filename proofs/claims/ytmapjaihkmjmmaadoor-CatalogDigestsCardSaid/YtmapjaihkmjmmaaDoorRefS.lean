/-
  Walks of layer 57's reference: In.
-/
import Derived.Test.YtmapjaihkmjmmaaDoorSum
import Derived.Test.YtmapjaihkmjmmaaDoorNetR
import Derived.Test.YtmapjaihkmjmmaaDoorBlkV
namespace Go.Proofs.YtmapjaihkmjmmaaDoor
open Go.RowKit

/-- A result list: what a call hands back. -/
def RetS {α : Type} (T : Ty α) (I : IH) (w : World) (l : List α) (e : Ending) (w' : World) : Prop :=
  ∃ v' I', e = .returned v' ∧ Below w.heap.size w w' ∧ Ext w.heap.size I I' ∧ Ok I' w' ∧ RdS T I' v' l

set_option maxRecDepth 100000 in
set_option maxHeartbeats 1000000 in
theorem ref57_In (I : IH) (v : Value) (l : List Rec) (hv : RdS tRec I v l) (hl : ∀ r ∈ l, r.Wf) (hn : l.length ≤ 1000000) (f t : Bytes) (w : World) (hw : Ok I w) :
    Calls Tryd.prog 20 #[v, S f, S t] w (RetS tRec I w (recIn l f t)) := by
  obtain ⟨ao, cap, rfl, hcap, hcm, _⟩ := id hv
  have Hv := Lib.hid hv; clear hv
  have Hl := Lib.hid hl; clear hl
  go_enter Tryd.func20, Tryd.ntmps20
  go_wp2_with fail
  go_loopw [7, 13] (fun s7 s13 wr => ∃ k : Nat, k ≤ l.length ∧ s13 = .int .i64 k ∧ OwnS tRec 25 I wr w.heap.size s7 (recIn (l.take k) f t) ∧ Below w.heap.size w wr) (fun _ i _ => l.length - (intOf i).toNat)
  case atStart =>
    exact ⟨0, Nat.zero_le _, rfl, ⟨[], World.ownsRow_made w #[] 0 (Nat.le_refl _) (Nat.zero_le _) (by simp), LiesL.nil _ _⟩, (Below.refl _ _).alloc (Nat.le_refl _) _⟩
  case round =>
    obtain ⟨k, hk, rfl, hown, hb⟩ := hrel
    have Hown := Lib.hid hown
    clear hown
    by_cases hlt : k < l.length
    · have hwr : Ok I wr := hw.below (Nat.le_refl _) hb
      obtain ⟨x, b, off, cap', hlx, hvv, hc0, hc1, hc2⟩ := recAt Hv.out hwr k hlt
      cases hvv
      have Hxw := Lib.hid (Hl.out x (by rw [← hlx]; exact List.getElem_mem hlt))
      have Hst := Lib.hid (show recIn (l.take (k + 1)) f t = recIn (l.take k) f t ++ (if inRange f t x then [x] else []) by
        rw [List.take_succ_eq_append_getElem hlt, hlx, recIn, List.filter_append, recIn]; congr 1; simp [List.filter_cons])
      have hlen : (recIn (l.take k) f t).length ≤ k := Nat.le_trans (List.length_filter_le _ _) (by simp; omega)
      clear hlx
      go_wp2_with fail
      refine (ref57_Key x Hxw.out _).mono ?_
      rintro e w4 ⟨rfl, hb4⟩
      obtain ⟨hx0, hx1, hx2⟩ := recBox rfl hb4
      have hb4' : Below w.heap.size w w4 := (hb.alloc hb.size _).trans (hb4.mono (by have := hb.size; simp; omega))
      have Hown4 := Lib.hid ((Hown.out.alloc (.cells #[.int .u32 x.a, .int .i64 x.s, S x.d] 25)).below hb4)
      clear hb4 hc0 hc1 hc2
      cases x1 : Op.bytesLess (recKey x) f
      · by_cases ht : t = []
        · have ht1 : t.isEmpty = true := by rw [ht]; rfl
          have ht2 : (!t.isEmpty) = false := by rw [ht]; rfl
          have ht3 : (t == []) = true := by rw [ht]; rfl
          have Hr := Lib.hid (show inRange f t x = true by unfold inRange; rw [x1, ht]; rfl)
          clear ht
          go_wp2_with (at_builtin; refine wpList_append1 (w0 := w4) rec_elem rfl _ _ rfl _ _ _ rfl Hown4.out x [.int .u32 x.a, .int .i64 x.s, S x.d] _ rfl rfl (by omega) (by omega) (Below.size hb4') ?_)
          intro v9 w9 hown9 hg9
          have hb9 := Below.own hb4' hg9 Hown4.out (Nat.le_refl _) (Below.size hb4')
          go_wp2
          go_roundw
          case rel => exact ⟨k + 1, by omega, by go_num, (by rw [Hst.out, Hr.out]; exact hown9), hb9⟩
          case measure => simp [intOf]; omega
        · have ht1 : t.isEmpty = false := by cases t <;> simp_all
          have ht2 : (!t.isEmpty) = true := by rw [ht1]; rfl
          have ht3 : (t == []) = false := by simpa using ht
          have Ht := Lib.hid ht
          clear ht
          go_wp2_with fail
          refine (ref57_Key x Hxw.out _).mono ?_
          rintro e w5 ⟨rfl, hb5⟩
          have hx0 := cell_thru hb5 hx0
          have hx1 := cell_thru hb5 hx1
          have hx2 := cell_thru hb5 hx2
          have hb5' := hb4'.trans (hb5.mono hb4'.size)
          have Hown5 := Lib.hid (Hown4.out.below hb5)
          clear hb5 Hown4 hb4'
          cases x2 : Op.bytesLess (recKey x) t
          · have Hr := Lib.hid (show inRange f t x = false by unfold inRange; rw [x1, x2, decide_eq_false Ht.out]; rfl)
            go_wp2
            go_roundw
            case rel => exact ⟨k + 1, by omega, by go_num, (by rw [Hst.out, Hr.out]; simpa using Hown5.out), hb5'⟩
            case measure => simp [intOf]; omega
          · have Hr := Lib.hid (show inRange f t x = true by unfold inRange; rw [x1, x2]; simp)
            go_wp2_with (at_builtin; refine wpList_append1 (w0 := w5) rec_elem rfl _ _ rfl _ _ _ rfl Hown5.out x [.int .u32 x.a, .int .i64 x.s, S x.d] _ rfl rfl (by omega) (by omega) (Below.size hb5') ?_)
            intro v9 w9 hown9 hg9
            have hb9 := Below.own hb5' hg9 Hown5.out (Nat.le_refl _) (Below.size hb5')
            go_wp2
            go_roundw
            case rel => exact ⟨k + 1, by omega, by go_num, (by rw [Hst.out, Hr.out]; exact hown9), hb9⟩
            case measure => simp [intOf]; omega
      · have Hr := Lib.hid (show inRange f t x = false by unfold inRange; rw [x1]; rfl)
        go_wp2
        go_roundw
        case rel => exact ⟨k + 1, by omega, by go_num, (by rw [Hst.out, Hr.out]; simpa using Hown4.out), hb4'⟩
        case measure => simp [intOf]; omega
    · have hke : l.take k = l := List.take_of_length_le (by omega)
      rw [hke] at Hown
      clear hke
      go_wp2
      go_ret
      obtain ⟨I', hI1, hI2, hI3, _⟩ := Hown.out.freeze (hw.below (Nat.le_refl _) hb) (fun b hb => hw.fresh hb)
      exact ⟨_, I', rfl, hb, hI1, hI2, hI3⟩

set_option maxRecDepth 100000 in
set_option maxHeartbeats 1000000 in
theorem ref57_Summary (I : IH) (v : Value) (l : List Rec) (hv : RdS tRec I v l) (hl : ∀ r ∈ l, r.Wf) (hn : l.length ≤ 1000000) (hval : ∀ r ∈ l, recValid r = 0) (f t : Bytes) (w : World) (hw : Ok I w) :
    Calls Tryd.prog 19 #[v, S f, S t] w fun e w' => e = .returned (sumV f t (recIn l f t)) ∧ Below w.heap.size w w' := by
  obtain ⟨ao, cap, rfl, hcap, hcm, _⟩ := id hv
  have Hv := Lib.hid hv; clear hv
  have Hl := Lib.hid hl; clear hl
  have Hval := Lib.hid hval; clear hval
  go_enter Tryd.func19, Tryd.ntmps19
  go_wp2_with fail
  refine (ref57_In I _ l Hv.out Hl.out hn f t _ (hw.alloc _)).mono ?_
  rintro e w1 ⟨v1, I1, rfl, hb1, hx1, hok1, hr1⟩
  have Hr1 := Lib.hid hr1
  obtain ⟨ao1, cap1, rfl, hcap1, hcm1, _⟩ := id hr1
  have hres : w1.heap[w.heap.size]? = some (.cells sumZero 37 (0, 0)) := (hb1.block _ (by simp)).trans (heap_alloc_new w _)
  have hb1' := ((Below.refl _ _).alloc (Nat.le_refl _) _).trans (hb1.mono (by simp))
  have hz1 := hb1.size
  simp only [World.size_alloc] at hz1
  have hLn : (recIn l f t).length ≤ l.length := List.length_filter_le _ _
  have Hmem := Lib.hid (show ∀ x ∈ recIn l f t, x.Wf ∧ recValid x = 0 from fun x hx => ⟨Hl.out x (List.mem_filter.1 hx).1, Hval.out x (List.mem_filter.1 hx).1⟩)
  clear hr1 hb1 hx1
  generalize hL : recIn l f t = L at Hr1 hcap1 hLn Hmem ⊢
  have HL := Lib.hid hL
  clear hL
  go_wp2_with fail
  go_loopw [8, 17] (fun s8 s17 wr => ∃ k : Nat, k ≤ L.length ∧ s8 = S (recText (L.take k)) ∧ s17 = .int .i64 k ∧ Below w1.heap.size w1 wr) (fun _ i _ => L.length - (intOf i).toNat)
  case atStart => exact ⟨0, Nat.zero_le _, rfl, rfl, Below.refl _ _⟩
  case round =>
    obtain ⟨k, hk, rfl, rfl, hb⟩ := hrel
    have hwr : Ok I1 wr := hok1.below (Nat.le_refl _) hb
    by_cases hlt : k < L.length
    · obtain ⟨x, b, off, cap', hlx, hvv, hc0, hc1, hc2⟩ := recAt Hr1.out hwr k hlt
      cases hvv
      have hxm : x ∈ L := by rw [← hlx]; exact List.getElem_mem hlt
      have Hxw := Lib.hid (Hmem.out x hxm).1
      have hxd : x.d.length = 32 := (recValid_ok (Hmem.out x hxm).2).2.2
      have hkl : (recKey x).length ≤ 14 := recKey_length x
      have h1 := netP_length (recKey x) (by omega)
      have h2 := netP_length x.d (by omega)
      have h3 : (recText (L.take k)).length ≤ 100 * (L.take k).length := recText_length fun r hr => (Hmem.out r (List.mem_of_mem_take hr)).2
      rw [List.length_take] at h3
      have h4 : (recText (L.take k)).length ≤ 100 * 1000000 := by omega
      have Hst := Lib.hid (show recText (L.take (k + 1)) = recText (L.take k) ++ (netP (recKey x) ++ netP x.d) by
        rw [List.take_succ_eq_append_getElem hlt, hlx, recText_snoc]; simp [recTextOne, netsP])
      clear hlx hxm h3
      have hg0 := cell_regrown (show (wr.alloc (.cells #[.int .u32 x.a, .int .i64 x.s, S x.d] 25)).cell? ⟨wr.heap.size, 0, none⟩ = some (.int .u32 x.a) by simp)
      have hg1 := cell_regrown (show (wr.alloc (.cells #[.int .u32 x.a, .int .i64 x.s, S x.d] 25)).cell? ⟨wr.heap.size, 1, none⟩ = some (.int .i64 x.s) by simp)
      have hg2 := cell_regrown (show (wr.alloc (.cells #[.int .u32 x.a, .int .i64 x.s, S x.d] 25)).cell? ⟨wr.heap.size, 2, none⟩ = some (S x.d) by simp)
      go_wp2_with fail
      refine wp_region_quiet_below (by kernel_rfl) (by kernel_rfl) ?_
      repeat (go_big_quiet_step ((with_reducible first | exact Calls.regrown_of (ref57_Key x Hxw.out _) | exact Calls.regrown_of (ref02_String _ (by omega) _))))
      refine wpQuiet_nil ?_
      intro w4 hwq
      have hb4 : Below (wr.alloc (.cells #[.int .u32 x.a, .int .i64 x.s, S x.d] 25)).heap.size (wr.alloc (.cells #[.int .u32 x.a, .int .i64 x.s, S x.d] 25)) w4 := by
        obtain ⟨pq, rfl⟩ := hwq
        exact below_regrown _ _ _
      clear hwq
      have hb4' : Below w1.heap.size w1 w4 := (hb.alloc hb.size _).trans (hb4.mono (by have := hb.size; simp; omega))
      go_wp2
      go_roundw
      case rel => exact ⟨k + 1, by omega, by rw [Hst.out], by go_num, hb4'⟩
      case measure => simp [intOf]; omega
    · have hke : L.take k = L := List.take_of_length_le (by omega)
      rw [hke]
      clear hke
      have hlen : (recText L).length ≤ 100 * L.length := recText_length fun r hr => (Hmem.out r hr).2
      have Hres := Lib.hid ((hb.block _ (by omega)).trans hres)
      have Hbw := Lib.hid (hb1'.trans (hb.mono (by omega)))
      have hbs := hb.size
      clear hres hb1' hb
      go_wp2_with fail
      refine (ref04_Sum1 _ _ _ _ (show (recText L).length ≤ 140737488355328 by omega) _ (by simp)).mono ?_
      rintro e w6 ⟨rfl, hb6⟩
      have h6s := hb6.size
      simp only [World.size_alloc] at h6s
      have h0 := (hb6.block _ (by simp; omega)).trans ((Below.heap_alloc _ _ _ (by omega)).trans Hres.out)
      have Hw6 := Lib.hid ((Hbw.out.alloc (by omega) _).trans (hb6.mono (by simp; omega)))
      clear hb6 Hbw Hres
      have hi4 : (Tryd.prog.info? 37).map (·.size) = some (#[S f, S t, .int .i64 L.length, S (sumP (recText L))] : Array Value).size := by kernel_rfl
      have ho4 : (#[S f, S t, .int .i64 L.length, S (sumP (recText L))] : Array Value).all (·.oneCell') = true := by simp [Value.oneCell']
      go_wp2_with (refine wpList_store_row rfl 37 _ _ rfl w.heap.size #[S f, S t, .int .i64 L.length, S (sumP (recText L))] rfl rfl 37 sumZero h0 hi4 rfl ho4 ?_)
      try simp only [Exit.inBlock, Exit.then]
      refine bodyPost_ret (results_cell_row rfl _ _ w.heap.size _ #[S f, S t, .int .i64 L.length, S (sumP (recText L))] (0, 0) _ rfl (setRow_heap _ _ _ _ _ _ h0) Tryd.underlying37 rfl hi4) rfl ⟨by rw [HL.out], below_setRow Hw6.out (Nat.le_refl _) _⟩
end Go.Proofs.YtmapjaihkmjmmaaDoor
