/-
  The law CatalogOrder: its walk.
-/
import Derived.Test.YtmapjaihkmjmmaaDoorPlainC
import Derived.Test.YtmapjaihkmjmmaaDoorLawA
namespace Go.Proofs.YtmapjaihkmjmmaaDoor
open Go.RowKit

set_option maxRecDepth 100000 in
set_option maxHeartbeats 2000000 in
theorem law_CatalogOrder (I : IH) (hI : Glob I) (v : Value) (l : List Rec) (hv : RdS tRec I v l) (hl : ∀ r ∈ l, r.Wf) (w : World) (hw : Ok I w) :
    Calls Tryd.prog 4 #[v] w fun e w' => e = .returned (.bool true) ∧ Below w.heap.size w w' := by
  obtain ⟨ao, cap, rfl, hcap, hcm, _⟩ := id hv
  have Hv := Lib.hid hv; clear hv
  have Hl := Lib.hid hl; clear hl
  go_enter Tryd.func4, Tryd.ntmps4
  go_wp2_with fail
  refine (law_alive I hI _ hw).mono ?_
  rintro e w1 ⟨rfl, hb1⟩
  have hok1 : Ok I w1 := hw.below (Nat.le_refl _) hb1
  by_cases h1 : l.length ≤ 40
  · have hd1 : decide (40 < l.length) = false := by simp; omega
    go_wp2_with fail
    go_loopw [3, 16] (fun s3 s16 wr => ∃ (k : Nat) (A : List Rec) (I1 : IH), k ≤ l.length ∧ s16 = .int .i64 k ∧ Ext w1.heap.size I I1 ∧ Ok I1 wr ∧ RdS tRec I1 s3 A ∧ Good A (l.take k) ∧ Below w1.heap.size w1 wr) (fun _ i _ => l.length - (intOf i).toNat)
    case atStart => exact ⟨0, [], I, Nat.zero_le _, rfl, Ext.refl _ _, hok1, RdS.nil _ _, Good.nil, Below.refl _ _⟩
    case round =>
      obtain ⟨k, A, I1, hk, rfl, hx1, hok, hrd, hgood, hb⟩ := hrel
      have Hrd := Lib.hid hrd; clear hrd
      have Hgood := Lib.hid hgood; clear hgood
      have hAl : A.length ≤ 1000000 := by have := Hgood.out.len; simp at this; omega
      have hI1 : Glob I1 := hI.keep hok1 hx1
      have hkeep := hx1.keep hok1 (Nat.le_refl _)
      have Hv1 := Lib.hid (Hv.out.mono hkeep)
      clear hkeep
      by_cases hlt : k < l.length
      · obtain ⟨x, b, off, cap', hlx, hvv, hc0, hc1, hc2⟩ := recAt Hv1.out hok k hlt
        cases hvv
        have Hxw := Lib.hid (Hl.out x (by rw [← hlx]; exact List.getElem_mem hlt))
        have Htk := Lib.hid (show l.take (k + 1) = l.take k ++ [x] by rw [List.take_succ_eq_append_getElem hlt, hlx])
        clear hlx
        obtain ⟨A', n, hA'⟩ : ∃ A' n, recAdd A x = (A', n) := ⟨_, _, rfl⟩
        have HA := Lib.hid hA'; clear hA'
        go_wp2_with fail
        refine (cat_Add I1 hI1 _ A Hrd.out (fun r hr => Hgood.out.wf r hr) hAl x Hxw.out _ (hok.alloc _)).mono ?_
        rw [HA.out]
        rintro e w2 ⟨v2, I2, rfl, hb2, hx2, hok2, hr2⟩
        obtain ⟨hy0, hy1, hy2⟩ := recBox rfl hb2
        have hb2' : Below w1.heap.size w1 w2 := (hb.alloc hb.size _).trans (hb2.mono (by have := hb.size; simp; omega))
        have hx2' : Ext w1.heap.size I I2 := hx1.trans hx2 (by have := hb.size; simp; omega)
        have Hr2 := Lib.hid hr2; clear hr2
        by_cases hn : n = 0
        · subst hn
          obtain ⟨hg1, hg2⟩ := Hgood.out.add Hxw.out (by rw [HA.out])
          rw [HA.out] at hg1 hg2
          have Hg1 := Lib.hid hg1; clear hg1
          have Hg2 := Lib.hid hg2; clear hg2
          have hAl' : A'.length ≤ 1000000 := by have := Hg1.out.len; simp at this; omega
          have hI2 : Glob I2 := hI.keep hok1 hx2'
          go_wp2_with fail
          refine (cat_Add I2 hI2 _ A' Hr2.out (fun r hr => Hg1.out.wf r hr) hAl' x Hxw.out _ hok2).mono ?_
          rw [Hg2.out]
          rintro e w3 ⟨v3, I3, rfl, hb3, hx3, hok3, hr3⟩
          have hb3' : Below w1.heap.size w1 w3 := hb2'.trans (hb3.mono hb2'.size)
          have hx3' : Ext w1.heap.size I I3 := hx2'.trans hx3 hb2'.size
          go_wp2
          go_roundw
          case rel => exact ⟨k + 1, A', I3, by omega, by go_num, hx3', hok3, hr3, (by rw [Htk.out]; exact Hg1.out), hb3'⟩
          case measure => simp [intOf]; omega
        · have hn' : (n != 0) = true := by simpa using hn
          clear hn
          go_wp2
          go_ret
          exact ⟨rfl, hb1.trans (hb2'.mono hb1.size)⟩
      · have hke : k = l.length := by omega
        have Hgood' : Hid (Good A l) := by have := Hgood.out; rw [hke, List.take_length] at this; exact Lib.hid this
        clear Hgood hke
        go_wp2_with fail
        go_loopw [4, 39] (fun s4 s39 wq => ∃ (j : Nat) (B : List Rec) (I2 : IH), j ≤ l.length ∧ s39 = .int .i64 j ∧ Ext wr.heap.size I1 I2 ∧ Ok I2 wq ∧ RdS tRec I2 s4 B ∧ Good B (l.reverse.take j) ∧ Below wr.heap.size wr wq) (fun _ i _ => l.length - (intOf i).toNat)
        case atStart => exact ⟨0, [], I1, Nat.zero_le _, rfl, Ext.refl _ _, hok, RdS.nil _ _, Good.nil, Below.refl _ _⟩
        case round =>
          obtain ⟨j, B, I2, hj, rfl, hx2, hok2, hrd2, hgood2, hb2⟩ := hrel
          have Hrd2 := Lib.hid hrd2; clear hrd2
          have Hgood2 := Lib.hid hgood2; clear hgood2
          have hBl : B.length ≤ 1000000 := by have := Hgood2.out.len; simp at this; omega
          have hI2 : Glob I2 := hI1.keep hok hx2
          have hkeep := hx2.keep hok (Nat.le_refl _)
          have Hv2 := Lib.hid (Hv1.out.mono hkeep)
          have Hrd12 := Lib.hid (Hrd.out.mono hkeep)
          clear hkeep
          by_cases hlt2 : j < l.length
          · obtain ⟨x, b, off, cap', hlx, hvv, hc0, hc1, hc2⟩ := recAt Hv2.out hok2 (l.length - 1 - j) (by omega)
            cases hvv
            have hxm : x ∈ l := by rw [← hlx]; exact List.getElem_mem _
            have Hxw := Lib.hid (Hl.out x hxm)
            have Htk := Lib.hid (show l.reverse.take (j + 1) = l.reverse.take j ++ [x] by rw [List.take_succ_eq_append_getElem (by simpa using hlt2), List.getElem_reverse, hlx])
            have hfit := Hgood'.out.fits Hgood2.out ((Hgood'.out.mem x).2 hxm) (fun y hy => (Hgood'.out.mem y).2 (List.mem_reverse.1 (List.mem_of_mem_take hy)))
            clear hlx hxm
            obtain ⟨B', n, hB'⟩ : ∃ B' n, recAdd B x = (B', n) := ⟨_, _, rfl⟩
            rw [hB'] at hfit
            have hn : n = 0 := hfit
            subst hn
            clear hfit
            have hg := (Hgood2.out.add Hxw.out (by rw [hB'])).1
            rw [hB'] at hg
            have HB := Lib.hid hB'; clear hB'
            have Hg := Lib.hid hg; clear hg
            have hw1 : IntKind.i64.wrap ((l.length : Int) - 1) = (l.length : Int) - 1 := IntWalk.i64_in _ (by omega)
            have hw2 : IntKind.i64.wrap ((l.length : Int) - 1 - j) = (l.length : Int) - 1 - j := IntWalk.i64_in _ (by omega)
            have hw3 : ((l.length : Int) - 1 - j).toNat = l.length - 1 - j := by omega
            have hw4 : (0 : Int) ≤ (l.length : Int) - 1 - j := by omega
            go_wp2_with fail
            refine (cat_Add I2 hI2 _ B Hrd2.out (fun r hr => Hgood2.out.wf r hr) hBl x Hxw.out _ hok2).mono ?_
            rw [HB.out]
            rintro e w3 ⟨v3, I3, rfl, hb3, hx3, hok3, hr3⟩
            have hb3' := hb2.trans (hb3.mono hb2.size)
            have hx3' := hx2.trans hx3 hb2.size
            go_wp2
            go_roundw
            case rel => exact ⟨j + 1, B', I3, by omega, by go_num, hx3', hok3, hr3, (by rw [Htk.out]; exact Hg.out), hb3'⟩
            case measure => simp [intOf]; omega
          · have hab : A = B := rises_unique Hgood'.out.rises Hgood2.out.rises fun y => by
              rw [Hgood'.out.mem, Hgood2.out.mem, show j = l.reverse.length by simp; omega, List.take_length, List.mem_reverse]
            subst hab
            have hAl' := Hgood'.out.len
            obtain ⟨ao3, cap3, rfl, _, hcm3, _⟩ := id Hrd12.out
            have hd2 : decide (A.length ≤ l.length) = true := by simpa using hAl'
            go_wp2_with fail
            refine (ref57_Same I2 _ _ A A Hrd12.out Hrd2.out _ hok2).mono ?_
            rintro e w4 ⟨rfl, hb4⟩
            rw [decide_eq_true rfl]
            have hok4 : Ok I2 w4 := hok2.below (Nat.le_refl _) hb4
            go_wp2_with fail
            refine (cat_Check I2 hI2 _ A Hrd12.out (fun r hr => Hgood'.out.wf r hr) _ hok4).mono ?_
            rintro e w5 ⟨rfl, hb5⟩
            rw [Hgood'.out.check]
            have hb5' := hb2.trans ((hb4.trans (hb5.mono hb4.size)).mono hb2.size)
            go_wp2
            go_ret
            exact ⟨rfl, hb1.trans ((hb.trans (hb5'.mono hb.size)).mono hb1.size)⟩
  · have hd1 : decide (40 < l.length) = true := by simp; omega
    go_wp2
    go_ret
    exact ⟨rfl, hb1⟩
end Go.Proofs.YtmapjaihkmjmmaaDoor
