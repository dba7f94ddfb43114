/-
  Walks of layer 32: Set.
-/
import Derived.Test.YtnnhgmpdfjljbaaDoorAtO
namespace Go.Proofs.YtnnhgmpdfjljbaaDoor
open Go.RowKit

theorem chk_one {x : At} (h : atErr x = 0) : chk [x] = 0 := (chk_eq [x]).2 ⟨by simp, by simpa using h, srt_cons.2 ⟨by simp, srt_nil⟩⟩
theorem merge_set {l : List At} {x : At} (h0 : chk l = 0) (hx : atErr x = 0) : mergeA l [x] = setA l x := by
  have e1 : mergeA l [x] = if 16 < (mrgA l [x]).length then ([], 6) else (mrgA l [x], 0) := by
    rw [mergeA, if_neg (by omega), if_neg (by have := chk_one hx; omega)]
  have e2 : setA l x = if 16 < (putA l x).length then ([], 6) else (putA l x, 0) := by
    rw [setA, if_neg (by omega), if_neg (by omega)]
  rw [e1, e2]; rfl

set_option maxRecDepth 100000 in
set_option maxHeartbeats 2000000 in
theorem at_Set (I : IH) (v : Value) (l : List At) (hv : RdS tAt I v l) (hl : ∀ x ∈ l, x.Wf) (x : At) (hx : x.Wf) (w : World) (hw : Ok I w) :
    Calls Tryd.prog 12 #[v, S x.k, S x.v] w (RetL tAt I w (setA l x).1 (setA l x).2) := by
  obtain ⟨ao, cap, rfl, hcap, hcm, _⟩ := id hv
  have Hv := Lib.hid hv; clear hv
  have Hl := Lib.hid hl; clear hl
  have Hwx := Lib.hid hx; clear hx
  have hCk := fun w hw => at_Check I _ l Hv.out Hl.out w hw
  have HCk := Lib.hid hCk
  clear hCk
  by_cases h0 : chk l = 0
  · have H0 := Lib.hid h0
    clear h0
    go_enter Tryd.func12, Tryd.ntmps12
    go_wp2_with fail
    refine (HCk.out _ hw).mono ?_
    rintro e w1 ⟨rfl, hb1⟩
    rw [H0.out]
    have hok1 : Ok I w1 := hw.below (Nat.le_refl _) hb1
    go_wp2_with fail
    refine (at_attr x Hwx.out _).mono ?_
    rintro e w2 ⟨rfl, hb2⟩
    obtain ⟨hx0, hx1⟩ := atBox rfl hb2
    have hb2' := hb1.trans ((((Below.refl _ _).alloc (Nat.le_refl _) _).trans (hb2.mono (by simp))).mono hb1.size)
    have hok2 : Ok I w2 := hw.below (Nat.le_refl _) hb2'
    clear hb1 hb2
    by_cases hq0 : atErr x = 0
    · have Hm := Lib.hid (merge_set H0.out hq0)
      rw [hq0]
      clear hq0
      go_wp2_with fail
      have hok3 : Ok I (w2.alloc (.cells #[S x.k, S x.v] 34)) := hok2.alloc _
      have hown : OwnS tAt 34 I (w2.alloc (.cells #[S x.k, S x.v] 34)) w2.heap.size (.slice (some ⟨w2.heap.size, 0, none⟩) 1 1) [x] :=
        ⟨[S x.k, S x.v], ⟨rfl, .inr ⟨w2.heap.size, 1, _, rfl, Nat.le_refl _, heap_alloc_new w2 _, Nat.le_refl _, by decide, rfl, rfl⟩⟩, LiesL.one rfl⟩
      obtain ⟨I2, hI1, hI2, hI3, _⟩ := hown.freeze hok3 (fun b hb => hok2.fresh hb)
      have hb3 := hb2'.alloc hb2'.size (.cells #[S x.k, S x.v] 34)
      have HI1 := Lib.hid (hI1.mono hb2'.size)
      have Hv2 := Hv.out.mono (hI1.keep hok2 (Nat.le_refl _))
      refine (at_Merge I2 _ _ l [x] Hv2 Hl.out hI3 (by simpa using Hwx.out) _ hI2).mono ?_
      rintro e w4 ⟨v4, I4, rfl, hb4, hx4, hok4, hr4⟩
      rw [Hm.out] at hr4 ⊢
      clear hI3 Hv2 hown hI1
      have Hr4 := Lib.hid hr4
      have hb4' := hb3.trans (hb4.mono hb3.size)
      have Hx4 := Lib.hid (HI1.out.trans (hx4.mono hb3.size) (Nat.le_refl _))
      clear hr4 hx4
      go_wp2
      go_ret2
      exact ⟨_, I4, rfl, hb4', Hx4.out, hok4, Hr4.out⟩
    · obtain ⟨q, hq⟩ : ∃ q, atErr x = q := ⟨_, rfl⟩
      have hn0 : (q != 0) = true := by rw [← hq]; simpa using hq0
      have Hs := Lib.hid (show setA l x = ([], q) by rw [setA, if_neg (by rw [H0.out]; simp), if_pos hq0, hq])
      rw [hq]; clear hq hq0
      go_wp2
      go_ret2
      rw [Hs.out]
      exact ⟨_, I, rfl, hb2', Ext.refl _ _, hok2, RdS.nil _ _⟩
  · obtain ⟨q, hq⟩ : ∃ q, chk l = q := ⟨_, rfl⟩
    have hn0 : (q != 0) = true := by rw [← hq]; simpa using h0
    have Hs := Lib.hid (show setA l x = ([], q) by rw [setA, if_pos h0, hq])
    have Hq := Lib.hid hq; clear hq h0
    go_enter Tryd.func12, Tryd.ntmps12
    go_wp2_with fail
    refine (HCk.out _ hw).mono ?_
    rintro e w1 ⟨rfl, hb1⟩
    rw [Hq.out]
    go_wp2
    go_ret2
    rw [Hs.out]
    exact ⟨_, I, rfl, hb1, Ext.refl _ _, hw.below (Nat.le_refl _) hb1, RdS.nil _ _⟩
end Go.Proofs.YtnnhgmpdfjljbaaDoor
