/-
  Walks of the reference's layer 32: Set, Merge.
-/
import Derived.Test.YtnnhgmpdfjljbaaDoorAtD
namespace Go.Proofs.YtnnhgmpdfjljbaaDoor
open Go.RowKit

theorem putA_len (l : List At) (x : At) : (putA l x).length ≤ l.length + 1 := by
  have key : ∀ (l : List At) (d : Bool) (out : List At), (putGo x d out l).length ≤ out.length + l.length + (if d then 0 else 1) := by
    intro l
    induction l with
    | nil => intro d out; rw [putGo]; cases d <;> simp
    | cons y l ih =>
      intro d out
      rw [putGo]
      refine Nat.le_trans (ih _ _) ?_
      cases d <;> cases h1 : Op.bytesLess y.k x.k <;> cases h2 : (y.k == x.k) <;> simp <;> omega
  have h := key l false []
  simp at h
  exact h

set_option maxRecDepth 100000 in
set_option maxHeartbeats 1000000 in
theorem ref32_Set (I : IH) (v : Value) (l : List At) (hv : RdS tAt I v l) (hl : ∀ x ∈ l, x.Wf) (x : At) (hx : x.Wf) (w : World) (hw : Ok I w) :
    Calls Tryd.prog 13 #[v, S x.k, S x.v] w (RetL tAt I w (setA l x).1 (setA l x).2) := by
  obtain ⟨ao, cap, rfl, hcap, hcm, _⟩ := id hv
  have Hv := Lib.hid hv; clear hv
  have Hl := Lib.hid hl; clear hl
  obtain ⟨hx1, hx2⟩ := hx
  have hCk := fun w hw => ref32_Check I _ l Hv.out Hl.out w hw
  have HCk := Lib.hid hCk
  clear hCk
  by_cases h0 : chk l = 0
  · have hok := (chk_eq l).1 h0
    have hlen := hok.len
    have Hset := Lib.hid (show setA l x = if atErr x ≠ 0 then ([], atErr x) else if 16 < (putA l x).length then ([], 6) else (putA l x, 0) by rw [setA, if_neg (by omega)])
    have H0 := Lib.hid h0
    clear h0 hok
    go_enter Tryd.func13, Tryd.ntmps13
    go_wp2_with fail
    refine (HCk.out _ hw).mono ?_
    rintro e w1 ⟨rfl, hb1⟩
    rw [H0.out]
    have hok1 : Ok I w1 := hw.below (Nat.le_refl _) hb1
    go_wp2_with fail
    refine (ref32_Key x.k hx1 _).mono ?_
    rintro e w2 ⟨rfl, hb2⟩
    have hok2 : Ok I w2 := hok1.below (Nat.le_refl _) hb2
    have hb2' := hb1.trans (hb2.mono hb1.size)
    clear hb1 hb2
    cases hko : keyOk x.k
    · have Hs := Lib.hid (show setA l x = ([], 7) by
        have : atErr x = 7 := by rw [atErr, if_pos hko]
        rw [Hset.out, this]; rfl)
      clear hko
      go_wp2
      go_ret2
      rw [Hs.out]
      exact ⟨_, I, rfl, hb2', Ext.refl _ _, hok2, RdS.nil _ _⟩
    · have Hko := Lib.hid hko
      clear hko
      have hpl := putA_len l x
      go_wp2_with fail
      refine (ref32_put I _ l Hv.out (by omega) x _ hok2).mono ?_
      rintro e w3 ⟨v3, I3, rfl, hb3, hx3, hok3, hr3⟩
      obtain ⟨ao3, cap3, rfl, hcap3, hcm3, _⟩ := id hr3
      have Hr3 := Lib.hid hr3
      have hb3' := hb2'.trans (hb3.mono hb2'.size)
      have Hx3 := Lib.hid (hx3.mono hb2'.size)
      clear hr3 hb3 hx3
      by_cases h64 : x.v.length ≤ 64
      · have hd1 : decide (64 < x.v.length) = false := decide_eq_false (by omega)
        have He := Lib.hid (show atErr x = 0 by rw [atErr, if_neg (by rw [Hko.out]; simp), if_neg (by omega)])
        by_cases h16 : (putA l x).length ≤ 16
        · have hd2 : decide (16 < (putA l x).length) = false := decide_eq_false (by omega)
          have Hs := Lib.hid (show setA l x = (putA l x, 0) by rw [Hset.out, He.out, if_neg (by omega), if_neg (by omega)])
          go_wp2
          go_ret2
          rw [Hs.out]
          exact ⟨_, I3, rfl, hb3', Hx3.out, hok3, Hr3.out⟩
        · have hd2 : decide (16 < (putA l x).length) = true := decide_eq_true (by omega)
          have Hs := Lib.hid (show setA l x = ([], 6) by rw [Hset.out, He.out, if_neg (by omega), if_pos (by omega)])
          go_wp2
          go_ret2
          rw [Hs.out]
          exact ⟨_, I3, rfl, hb3', Hx3.out, hok3, RdS.nil _ _⟩
      · have hd1 : decide (64 < x.v.length) = true := decide_eq_true (by omega)
        have Hs := Lib.hid (show setA l x = ([], 6) by
          have : atErr x = 6 := by rw [atErr, if_neg (by rw [Hko.out]; simp), if_pos (by omega)]
          rw [Hset.out, this]; rfl)
        go_wp2
        go_ret2
        rw [Hs.out]
        exact ⟨_, I3, rfl, hb3', Hx3.out, hok3, RdS.nil _ _⟩
  · obtain ⟨q, hq⟩ : ∃ q, chk l = q := ⟨_, rfl⟩
    have hn0 : (q != 0) = true := by rw [← hq]; simpa using h0
    have Hs := Lib.hid (show setA l x = ([], q) by rw [setA, if_pos h0, hq])
    have Hq := Lib.hid hq; clear hq h0
    go_enter Tryd.func13, Tryd.ntmps13
    go_wp2_with fail
    refine (HCk.out _ hw).mono ?_
    rintro e w1 ⟨rfl, hb1⟩
    rw [Hq.out]
    go_wp2
    go_ret2
    rw [Hs.out]
    exact ⟨_, I, rfl, hb1, Ext.refl _ _, hw.below (Nat.le_refl _) hb1, RdS.nil _ _⟩
end Go.Proofs.YtnnhgmpdfjljbaaDoor
