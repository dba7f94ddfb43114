/-
  The law CatalogAdds: its walk.
-/
import Derived.Test.YtmapjaihkmjmmaaDoorPlainB
namespace Go.Proofs.YtmapjaihkmjmmaaDoor
open Go.RowKit

def rec0 : Rec := ⟨42, 7, [48, 49, 50, 51, 52, 53, 54, 55, 56, 57, 97, 98, 99, 100, 101, 102, 48, 49, 50, 51, 52, 53, 54, 55, 56, 57, 97, 98, 99, 100, 101, 102]⟩
theorem rec0_wf : rec0.Wf := by unfold Rec.Wf; decide
theorem rec0_key : recKey rec0 = [48, 48, 48, 48, 48, 48, 48, 48, 52, 50, 45, 48, 48, 55] := by decide
theorem rec0_valid : recValid rec0 = 0 := by decide
theorem rec0_check : recCheck [rec0] = 0 := by decide
theorem rec0_add : recAdd [] rec0 = ([rec0], 0) := by
  have h := recIndex_le [] (recKey rec0)
  rw [recAdd, rec0_valid]
  simp [show recIndex [] (recKey rec0) = 0 by simpa using h]

theorem Glob.keep {I I' : IH} {w : World} (h : Glob I) (hw : Ok I w) (hx : Ext w.heap.size I I') : Glob I' := hx.keep hw (Nat.le_refl _) _ _ h

set_option maxRecDepth 100000 in
set_option maxHeartbeats 1000000 in
theorem law_alive (I : IH) (hI : Glob I) (w : World) (hw : Ok I w) :
    Calls Tryd.prog 9 #[] w fun e w' => e = .returned (.bool true) ∧ Below w.heap.size w w' := by
  go_enter Tryd.func9, Tryd.ntmps9
  go_wp2_with fail
  refine (cat_Add I hI _ [] (RdS.nil _ _) (fun _ h => absurd h (by simp)) (by simp) rec0 rec0_wf _ (hw.alloc _)).mono ?_
  rintro e w1 ⟨v1, I1, rfl, hb1, hx1, hok1, hr1⟩
  obtain ⟨hc0, hc1, hc2⟩ := recBox (r := rec0) rfl hb1
  rw [rec0_add] at hr1
  rw [rec0_add]
  obtain ⟨ao, cap, rfl, hcap, hcm, _⟩ := id hr1
  have Hr1 := Lib.hid hr1; clear hr1
  have hI1 := hI.keep (hw.alloc _) hx1
  have hb1' : Below w.heap.size w w1 := ((Below.refl _ _).alloc (Nat.le_refl _) _).trans (hb1.mono (by simp))
  go_wp2_with fail
  refine (cat_Key I1 hI1 rec0 rec0_wf _ hok1).mono ?_
  rintro e w2 ⟨rfl, hb2⟩
  rw [rec0_key]
  have hok2 : Ok I1 w2 := hok1.below (Nat.le_refl _) hb2
  go_wp2_with fail
  refine (cat_Check I1 hI1 _ [rec0] Hr1.out (by simpa using rec0_wf) _ hok2).mono ?_
  rintro e w3 ⟨rfl, hb3⟩
  rw [rec0_check]
  go_wp2
  go_ret
  exact ⟨rfl, hb1'.trans ((hb2.mono hb1'.size).trans (hb3.mono (Nat.le_trans hb1'.size hb2.size)))⟩

set_option maxRecDepth 100000 in
set_option maxHeartbeats 1000000 in
theorem law_CatalogAdds (I : IH) (hI : Glob I) (v : Value) (l : List Rec) (hv : RdS tRec I v l) (hl : ∀ r ∈ l, r.Wf) (r : Rec) (hr : r.Wf) (w : World) (hw : Ok I w) :
    Calls Tryd.prog 3 #[v, r.v] w fun e w' => e = .returned (.bool true) ∧ Below w.heap.size w w' := by
  obtain ⟨ao, cap, rfl, hcap, hcm, _⟩ := id hv
  have hrd : r.d.length ≤ 9223372036854775807 := by have := hr; unfold Rec.Wf at this; omega
  have Hv := Lib.hid hv; clear hv
  have Hl := Lib.hid hl; clear hl
  have Hr := Lib.hid hr; clear hr
  go_enter Tryd.func3, Tryd.ntmps3
  go_wp2_with fail
  refine (law_alive I hI _ (hw.alloc _)).mono ?_
  rintro e w1 ⟨rfl, hb1⟩
  obtain ⟨hc0, hc1, hc2⟩ := recBox rfl hb1
  have hb1' : Below w.heap.size w w1 := ((Below.refl _ _).alloc (Nat.le_refl _) _).trans (hb1.mono (by simp))
  have hok1 : Ok I w1 := hw.below (Nat.le_refl _) hb1'
  by_cases h1 : l.length ≤ 100
  · have hd1 : decide (100 < l.length) = false := by simp; omega
    by_cases h2 : r.d.length ≤ 100
    · have hd2 : decide (100 < r.d.length) = false := by simp; omega
      have hg0 := cell_regrown hc0
      have hg1 := cell_regrown hc1
      have hg2 := cell_regrown hc2
      go_wp2_with fail
      refine wp_region_quiet_below (by kernel_rfl) (by kernel_rfl) ?_
      repeat (go_big_quiet_step ((with_reducible first | exact Calls.regrown_of (cat_Key I hI r Hr.out _ (hok1.below (Nat.le_refl _) (below_regrown _ _ _))) | exact Calls.regrown_of (ref57_Key r Hr.out _) | exact Calls.regrown_of (cat_Check I hI _ l Hv.out Hl.out _ (hok1.below (Nat.le_refl _) (below_regrown _ _ _))) | exact Calls.regrown_of (ref57_Check I _ l Hv.out Hl.out _ (hok1.below (Nat.le_refl _) (below_regrown _ _ _))))))
      refine wpQuiet_nil ?_
      intro w2 hwq
      have hb2 : Below (w1).heap.size (w1) w2 := by
        obtain ⟨pq, rfl⟩ := hwq
        exact below_regrown _ _ _
      clear hwq
      have hok2 : Ok I w2 := hok1.below (Nat.le_refl _) hb2
      have hb2' : Below w.heap.size w w2 := hb1'.trans (hb2.mono hb1'.size)
      have hr0 := cell_thru hb2 hc0
      have hr1 := cell_thru hb2 hc1
      have hr2 := cell_thru hb2 hc2
      go_wp2_with fail
      refine (ref57_Right I _ l Hv.out Hl.out _ hok2).mono ?_
      rintro e w3 ⟨rfl, hb3⟩
      have hok3 : Ok I w3 := hok2.below (Nat.le_refl _) hb3
      have hb3' : Below w.heap.size w w3 := hb2'.trans (hb3.mono hb2'.size)
      have hs0 := cell_thru hb3 hr0
      have hs1 := cell_thru hb3 hr1
      have hs2 := cell_thru hb3 hr2
      by_cases hck : recCheck l = 0
      · rw [show recRight l = 1 by rw [recRight, if_pos ⟨h1, hck⟩]]
        have Heq := Lib.hid (recAdd_eq ((recCheck_eq l).1 hck).2 r)
        clear hck
        obtain ⟨A, n, hA⟩ : ∃ A n, recAdd l r = (A, n) := ⟨_, _, rfl⟩
        have HA := Lib.hid hA; clear hA
        go_wp2_with fail
        refine (cat_Add I hI _ l Hv.out Hl.out (by omega) r Hr.out _ hok3).mono ?_
        rw [HA.out]
        rintro e w4 ⟨v4, I4, rfl, hb4, hx4, hok4, hr4⟩
        have hb4' : Below w.heap.size w w4 := hb3'.trans (hb4.mono hb3'.size)
        have hu0 := cell_thru hb4 hs0
        have hu1 := cell_thru hb4 hs1
        have hu2 := cell_thru hb4 hs2
        have hv4 : RdS tRec I4 (.slice ao l.length cap) l := Hv.out.mono (hx4.keep hok3 (Nat.le_refl _))
        have Hr4 := Lib.hid hr4; clear hr4
        have Hv4 := Lib.hid hv4; clear hv4
        go_wp2_with fail
        refine (ref57_Add I4 _ l Hv4.out Hl.out (by omega) r Hr.out _ hok4).mono ?_
        rw [← Heq.out, HA.out]
        rintro e w5 ⟨v5, I5, rfl, hb5, hx5, hok5, hr5⟩
        have hb5' : Below w.heap.size w w5 := hb4'.trans (hb5.mono hb4'.size)
        have Hr5 := Lib.hid hr5; clear hr5
        have Hr45 := Lib.hid (Hr4.out.mono (hx5.keep hok4 (Nat.le_refl _)))
        go_wp2_with fail
        refine (ref57_Same I5 _ _ A A Hr45.out Hr5.out _ hok5).mono ?_
        rintro e w6 ⟨rfl, hb6⟩
        rw [decide_eq_true rfl]
        go_wp2
        go_ret
        exact ⟨rfl, hb5'.trans (hb6.mono hb5'.size)⟩
      · rw [show recRight l = 0 by rw [recRight, if_neg (fun h => hck h.2)]]
        go_wp2
        go_ret
        exact ⟨rfl, hb3'⟩
    · have hd2 : decide (100 < r.d.length) = true := by simp; omega
      go_wp2
      go_ret
      exact ⟨rfl, hb1'⟩
  · have hd1 : decide (100 < l.length) = true := by simp; omega
    go_wp2
    go_ret
    exact ⟨rfl, hb1'⟩
end Go.Proofs.YtmapjaihkmjmmaaDoor
