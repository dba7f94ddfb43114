/-
  The law CatalogSummaries: its walk.
-/
import Derived.Test.YtmapjaihkmjmmaaDoorRefS
import Derived.Test.YtmapjaihkmjmmaaDoorLawD
namespace Go.Proofs.YtmapjaihkmjmmaaDoor
open Go.RowKit

set_option maxRecDepth 100000 in
set_option maxHeartbeats 2000000 in
theorem law_CatalogSummaries (I : IH) (hI : Glob I) (v : Value) (l : List Rec) (hv : RdS tRec I v l) (hl : ∀ r ∈ l, r.Wf) (f t : Bytes) (w : World) (hw : Ok I w) :
    Calls Tryd.prog 5 #[v, S f, S t] w fun e w' => e = .returned (.bool true) ∧ Below w.heap.size w w' := by
  obtain ⟨ao, cap, rfl, hcap, hcm, _⟩ := id hv
  have Hv := Lib.hid hv; clear hv
  have Hl := Lib.hid hl; clear hl
  go_enter Tryd.func5, Tryd.ntmps5
  go_wp2_with fail
  refine (law_alive I hI _ hw).mono ?_
  rintro e w1 ⟨rfl, hb1⟩
  have hok1 : Ok I w1 := hw.below (Nat.le_refl _) hb1
  go_wp2_with fail
  refine (ref57_Right I _ l Hv.out Hl.out _ hok1).mono ?_
  rintro e w2 ⟨rfl, hb2⟩
  have hok2 : Ok I w2 := hok1.below (Nat.le_refl _) hb2
  have Hb2 := Lib.hid (hb1.trans (hb2.mono hb1.size))
  clear hb1 hb2 hok1
  rcases right_cases l with h1 | h1
  · obtain ⟨hn, hval, hr⟩ := right_one h1
    rw [h1]
    have Hval := Lib.hid hval
    have Hr := Lib.hid hr
    clear hval hr h1
    have hnn : l.length ≤ 1000000 := by omega
    cases d1 : decide (100 < wrap64 ((f.length : Int) + (t.length : Int)))
    · have heq : ∀ W, (binOp .eql 37 (sumV f t (recIn l f t)) (sumV f t (recIn l f t))).run Tryd.prog W = .ok (.bool true) W := fun W => by rw [run_eql_range]; simp
      go_wp2_with fail
      refine (cat_Summary I hI _ l Hv.out Hl.out hnn Hr.out Hval.out f t _ hok2).mono ?_
      rintro e w3 ⟨rfl, hb3⟩
      have hok3 : Ok I w3 := hok2.below (Nat.le_refl _) hb3
      go_wp2_with fail
      refine (ref57_Summary I _ l Hv.out Hl.out hnn Hval.out f t _ hok3).mono ?_
      rintro e w4 ⟨rfl, hb4⟩
      go_wp2
      go_ret
      exact ⟨rfl, Hb2.out.trans ((hb3.trans (hb4.mono hb3.size)).mono Hb2.out.size)⟩
    · go_wp2
      go_ret
      exact ⟨rfl, Hb2.out⟩
  · rw [h1]
    clear h1
    go_wp2
    go_ret
    exact ⟨rfl, Hb2.out⟩
end Go.Proofs.YtmapjaihkmjmmaaDoor
