/-
  The law AttributeAssembly: its walk.
-/
import Derived.Test.YtnnhgmpdfjljbaaDoorPlA
namespace Go.Proofs.YtnnhgmpdfjljbaaDoor
open Go.RowKit

set_option maxRecDepth 100000 in
set_option maxHeartbeats 4000000 in
theorem law_AttributeAssembly (I : IH) (v : Value) (l : List At) (hv : RdS tAt I v l) (hl : AllWf l) (r : Nat) (hr : r ≤ 255) (w : World) (hw : Ok I w) :
    Calls Tryd.prog 7 #[v, .int .u8 r] w fun e w' => e = .returned (.bool true) ∧ Below w.heap.size w w' := by
  obtain ⟨ao, cap, rfl, hcap, hcm, _⟩ := id hv
  have Hv := Lib.hid hv; clear hv
  have Hl := Lib.hid hl; clear hl
  go_enter Tryd.func7, Tryd.ntmps7
  go_wp2_with fail
  refine (law_alive32 I _ hw).mono ?_
  rintro e w0 ⟨rfl, hb0⟩
  have hok0 : Ok I w0 := hw.below (Nat.le_refl _) hb0
  go_wp2_with fail
  refine (ref32_Great I _ l Hv.out Hl.out _ hok0).mono ?_
  rintro e wg ⟨rfl, hbg⟩
  have hokg : Ok I wg := hok0.below (Nat.le_refl _) hbg
  have hbg' := hb0.trans (hbg.mono hb0.size)
  clear hb0 hbg
  rcases great_cases l with hg | ⟨hg, hln⟩
  · rw [hg]
    go_wp2
    go_ret
    exact ⟨rfl, hbg'⟩
  rw [hg]
  go_wp2_with fail
  refine (at_Check I _ l Hv.out Hl.out _ hokg).mono ?_
  rintro e w1 ⟨rfl, hb1⟩
  have hok1 : Ok I w1 := hokg.below (Nat.le_refl _) hb1
  have hb1' := hbg'.trans (hb1.mono hbg'.size)
  clear hbg' hb1
  by_cases h0 : chk l = 0
  case neg =>
    obtain ⟨q, hq⟩ : ∃ q, chk l = q := ⟨_, rfl⟩
    have hn0 : (q != 0) = true := by rw [← hq]; simpa using h0
    rw [hq]
    clear hq h0
    go_wp2
    go_ret
    exact ⟨rfl, hb1'⟩
  have Ho := Lib.hid ((chk_eq l).1 h0)
  rw [h0]
  clear h0
  have hwr8 : IntKind.i64.wrap (r : Int) = r := IntWalk.i64_in _ (by omega)
  go_wp2_with fail
  go_loopw [5, 24] (fun s5 s24 X => ∃ (k : Nat) (A : List At) (I1 : IH), k ≤ l.length ∧ s24 = .int .i64 k ∧ Ext w1.heap.size I I1 ∧ Ok I1 X ∧ RdS tAt I1 s5 A ∧ RotG l r k A ∧ Below w1.heap.size w1 X) (fun _ i _ => l.length - (intOf i).toNat)
  case atStart => exact ⟨0, [], I, Nat.zero_le _, rfl, Ext.refl _ _, hok1, RdS.nil _ _, RotG.nil _ _, Below.refl _ _⟩
  case round =>
    obtain ⟨k, A, I1, hk, rfl, hx1, hok, hrd, hgood, hb⟩ := hrel
    have Hrd := Lib.hid hrd
    have Hgood := Lib.hid hgood
    have Hv1 := Lib.hid (Hv.out.mono (hx1.keep hok1 (Nat.le_refl _)))
    clear hgood
    by_cases hlt : k < l.length
    · clear hrd
      have hq : (k + r) % l.length < l.length := Nat.mod_lt _ (by omega)
      obtain ⟨x, b, off, cap', hlx, hvv, hc0, hc1⟩ := atAt Hv1.out hok ((k + r) % l.length) hq
      cases hvv
      have hxm : x ∈ l := by rw [← hlx]; exact List.getElem_mem hq
      have Hxw := Lib.hid (Hl.out x hxm)
      obtain ⟨p1, p2⟩ := Hgood.out.step Ho.out (show l[(k + r) % l.length]? = some x by rw [List.getElem?_eq_getElem hq, hlx])
      have P1 := Lib.hid p1
      have P2 := Lib.hid p2
      have HAw := Lib.hid (show AllWf A from fun z hz => Hl.out z (Hgood.out.sub z hz))
      clear hlx hxm p1 p2
      have hw1' : IntKind.i64.wrap ((k : Int) + r) = ((k + r : Nat) : Int) := by rw [IntWalk.i64_in _ (by omega)]; omega
      have hw3 : ¬ (l.length : Int) = 0 := by omega
      have hw4 : (0 : Int) ≤ ((k : Int) + r) % l.length := Int.emod_nonneg _ hw3
      have hw5 : ((k : Int) + r) % l.length < l.length := Int.emod_lt_of_pos _ (by omega)
      have HAk := Lib.hid (show A.length ≤ 1000000 by
        have := len_le Hgood.out.1 fun z hz => ⟨z, Hgood.out.sub z hz, rfl⟩
        omega)
      go_wp2_with fail
      have hx0 := hc0
      refine (at_Set I1 _ A Hrd.out HAw.out x Hxw.out _ (hok.alloc _)).mono ?_
      rw [P1.out]
      rintro e w2 ⟨v2, I2, rfl, hb2, hx2, hok2, hr2⟩
      have hb2' := (hb.alloc hb.size _).trans (hb2.mono (by have := hb.size; simp; omega))
      have hx2' := hx1.trans hx2 (by have := hb.size; simp; omega)
      have Hr2 := Lib.hid hr2
      clear hr2 hb2 hc0 hc1 hx0 Hrd
      go_wp2
      go_roundw
      case rel => exact ⟨k + 1, putA A x, I2, by omega, by go_num, hx2', hok2, Hr2.out, P2.out, hb2'⟩
      case measure => simp [intOf]; omega
    · have hke : k = l.length := by omega
      have hA : A = l := (by rw [← hke]; exact Hgood.out : RotG l r l.length A).all Ho.out
      subst hA
      obtain ⟨ao5, cap5, rfl, hcap5, hcm5, _⟩ := id hrd
      have hsrt := Lib.hid Ho.out.srt
      clear hrd Hgood hke
      go_wp2_with fail
      go_loopw [10, 53] (fun s10 s53 X => ∃ (k : Nat) (I2 : IH), k ≤ A.length ∧ s53 = .int .i64 k ∧ Ext w1.heap.size I I2 ∧ Ok I2 X ∧ RdS tAt I2 (.slice ao5 A.length cap5) A ∧ RdS tAt I2 s10 (A.drop k) ∧ Below w1.heap.size w1 X) (fun _ i _ => A.length - (intOf i).toNat)
      case atStart => exact ⟨0, I1, Nat.zero_le _, rfl, hx1, hok, Hrd.out, Hrd.out, hb⟩
      case round =>
        clear Hrd Hv1 hx1 hok hb
        obtain ⟨j, I2, hj, rfl, hx2, hok2, ho2, hrd2, hb2⟩ := hrel
        have Ho2 := Lib.hid ho2
        have Hrd2 := Lib.hid hrd2
        have Hv2 := Lib.hid (Hv.out.mono (hx2.keep hok1 (Nat.le_refl _)))
        clear ho2
        by_cases hlt2 : j < A.length
        · clear hrd2
          obtain ⟨x, b, off, cap', hlx, hvv, hc0, hc1⟩ := atAt Hv2.out hok2 j hlt2
          cases hvv
          have Hrm := Lib.hid (show remA (A.drop j) x.k = A.drop (j + 1) by rw [← hlx]; exact rem_head hsrt.out j hlt2)
          have hdl : (A.drop j).length ≤ 1000000 := by rw [List.length_drop]; omega
          clear hlx
          go_wp2_with fail
          refine (at_Remove I2 _ (A.drop j) Hrd2.out hdl x.k _ hok2).mono ?_
          rw [Hrm.out]
          rintro e w3 ⟨v3, I3, rfl, hb3, hx3, hok3, hr3⟩
          have hb3' := hb2.trans (hb3.mono hb2.size)
          have hx3' := hx2.trans hx3 hb2.size
          have Ho3 := Lib.hid (Ho2.out.mono (hx3.keep hok2 (Nat.le_refl _)))
          have Hr3 := Lib.hid hr3
          clear hr3 hb3 hc0 hc1
          go_wp2
          go_roundw
          case rel => exact ⟨j + 1, I3, by omega, by go_num, hx3', hok3, Ho3.out, Hr3.out, hb3'⟩
          case measure => simp [intOf]; omega
        · have hd0 : A.drop j = [] := List.drop_of_length_le (by omega)
          rw [hd0] at hrd2
          obtain ⟨ao6, cap6, rfl, hcap6, hcm6, _⟩ := id hrd2
          clear hd0 hrd2 Hrd2
          go_wp2_with fail
          refine (same_eq I2 _ _ A Ho2.out Hv2.out _ hok2).mono ?_
          rintro e w3 ⟨rfl, hb3⟩
          go_wp2
          go_ret
          exact ⟨rfl, hb1'.trans ((hb2.trans (hb3.mono hb2.size)).mono hb1'.size)⟩
end Go.Proofs.YtnnhgmpdfjljbaaDoor
