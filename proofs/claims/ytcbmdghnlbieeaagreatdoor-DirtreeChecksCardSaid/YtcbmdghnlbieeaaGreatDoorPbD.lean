/-
  Walks of layer 31 (pathname): Compare.
-/
import Derived.Test.YtcbmdghnlbieeaaGreatDoorPbC
namespace Go.Proofs.YtcbmdghnlbieeaaGreatDoor
open Go.RowKit

theorem cmpS_cases (x y : Bytes) : (cmpS x y = -1 ∧ Op.bytesLess x y = true) ∨ (cmpS x y = 0 ∧ x = y) ∨ (cmpS x y = 1 ∧ Op.bytesLess y x = true) := by
  rcases bl_total x y with ht | ht | ht
  · exact .inl ⟨by rw [cmpS, ht]; rfl, ht⟩
  · exact .inr (.inl ⟨by rw [cmpS, ht, bl_irrefl]; rfl, ht⟩)
  · exact .inr (.inr ⟨by rw [cmpS, bl_asymm ht, ht]; rfl, ht⟩)

set_option maxRecDepth 100000 in
set_option maxHeartbeats 1000000 in
theorem lib_CompareFunc (I : IH) (v1 v2 : Value) (l m : List Bytes) (hv1 : RdS tStr I v1 l) (hv2 : RdS tStr I v2 m) (w : World) (hw : Ok I w) :
    Calls Tryz.prog 79 #[v1, v2, .func (.func 80) #[] #[]] w fun e w' => e = .returned (.int .i64 (cmpL l m)) ∧ Below w.heap.size w w' := by
  have hlen := hv1.len_le
  have hlen2 := hv2.len_le
  obtain ⟨ao, cap, rfl, hcap, hcm, _⟩ := id hv1
  obtain ⟨ao2, cap2, rfl, hcap2, hcm2, _⟩ := id hv2
  have Hl := Lib.hid hv1
  have Hm := Lib.hid hv2
  clear hv1 hv2
  have eg : ∀ args w, (callFunc 80 args).run Tryz.prog w = .ok (.enter 80 args) w := fun _ _ => by kernel_rfl
  go_enter Tryz.func79, Tryz.ntmps79
  go_wp2_with fail
  go_loopw [13] (fun s13 wr => ∃ k : Nat, k ≤ l.length ∧ k ≤ m.length ∧ s13 = .int .i64 k ∧ l.take k = m.take k ∧ Below w.heap.size w wr) (fun i _ => l.length - (intOf i).toNat)
  case atStart => exact ⟨0, Nat.zero_le _, Nat.zero_le _, rfl, rfl, Below.refl _ _⟩
  case round =>
    obtain ⟨k, hk, hk2, rfl, hr, hb⟩ := hrel
    have Hr := Lib.hid hr
    have Hcd := Lib.hid (cmpL_drop hr hk hk2)
    clear hr
    have hwr : Ok I wr := hw.below (Nat.le_refl _) hb
    by_cases hlt : k < l.length
    case neg =>
      have Hdl := Lib.hid (show l.drop k = [] from List.drop_of_length_le (by omega))
      by_cases hlt2 : k < m.length
      · have hd1 : decide (l.length < m.length) = true := decide_eq_true (by omega)
        have Hn := Lib.hid (show cmpL l m = -1 by rw [Hcd.out, Hdl.out, List.drop_eq_getElem_cons hlt2]; rfl)
        go_wp2
        go_ret
        exact ⟨ret_i Hn.out.symm, hb⟩
      · have hd1 : decide (l.length < m.length) = false := decide_eq_false (by omega)
        have Hn := Lib.hid (show cmpL l m = 0 by rw [Hcd.out, Hdl.out, List.drop_of_length_le (by omega)]; rfl)
        go_wp2
        go_ret
        exact ⟨ret_i Hn.out.symm, hb⟩
    obtain ⟨x, b, off, cap', hlx, hvv, hx0⟩ := strAt Hl.out hwr k hlt
    cases hvv
    by_cases hlt2 : k < m.length
    case neg =>
      have hd1 : decide (m.length ≤ k) = true := decide_eq_true (by omega)
      have Hn := Lib.hid (show cmpL l m = 1 by rw [Hcd.out, List.drop_of_length_le (l := m) (by omega), List.drop_eq_getElem_cons hlt]; rfl)
      clear hlx
      go_wp2
      go_ret
      exact ⟨ret_i Hn.out.symm, hb⟩
    have hd1 : decide (m.length ≤ k) = false := decide_eq_false (by omega)
    obtain ⟨y, b', off', cap'', hly, hvv, hy0⟩ := strAt Hm.out hwr k hlt2
    cases hvv
    have Hcd2 := Lib.hid (show cmpL l m = cmpL (x :: l.drop (k + 1)) (y :: m.drop (k + 1)) by rw [Hcd.out, List.drop_eq_getElem_cons hlt, List.drop_eq_getElem_cons hlt2, hlx, hly])
    have Hlx := Lib.hid hlx
    have Hly := Lib.hid hly
    have Hc := Lib.hid (lib_cmp x y)
    have hcs := cmpS_cases x y
    generalize cmpS x y = c at Hc hcs
    clear hlx hly
    rcases hcs with ⟨hc, ht⟩ | ⟨hc, ht⟩ | ⟨hc, ht⟩
    · subst hc
      have Hn := Lib.hid (show cmpL l m = -1 by rw [Hcd2.out]; exact cmpL_cons_lt ht _ _)
      clear ht
      go_wp2_with fail
      refine (Hc.out _).mono ?_
      rintro e w1 ⟨rfl, rfl⟩
      go_wp2
      go_ret
      exact ⟨ret_i Hn.out.symm, hb⟩
    · subst hc
      have Hn := Lib.hid (show l.take (k + 1) = m.take (k + 1) by rw [List.take_succ_eq_append_getElem hlt, List.take_succ_eq_append_getElem hlt2, Hr.out, Hlx.out, Hly.out, ht])
      clear ht
      go_wp2_with fail
      refine (Hc.out _).mono ?_
      rintro e w1 ⟨rfl, rfl⟩
      go_wp2
      go_roundw
      case rel => exact ⟨k + 1, by omega, by omega, by go_num, Hn.out, hb⟩
      case measure => simp [intOf]; omega
    · subst hc
      have Hn := Lib.hid (show cmpL l m = 1 by rw [Hcd2.out]; exact cmpL_cons_gt ht _ _)
      clear ht
      go_wp2_with fail
      refine (Hc.out _).mono ?_
      rintro e w1 ⟨rfl, rfl⟩
      go_wp2
      go_ret
      exact ⟨ret_i Hn.out.symm, hb⟩

set_option maxRecDepth 100000 in
set_option maxHeartbeats 400000 in
theorem pn_Compare (I : IH) (hI : Glob I) (p d : Bytes) (hp : p.length ≤ 4294967280) (hd : d.length ≤ 4294967280) (w : World) (hw : Ok I w) :
    Calls Tryz.prog 45 #[S p, S d] w fun e w' => e = .returned (.int .i64 (cmpP p d)) ∧ Below w.heap.size w w' := by
  have Hu := Lib.hid (cmpP_eq p d)
  have Hep := Lib.hid (pn_elements I hI p hp w hw)
  have Hed := Lib.hid (fun I hI w hw => pn_elements I hI d hd w hw)
  generalize els p = l at Hu Hep
  generalize els d = m at Hu Hed
  go_enter Tryz.func45, Tryz.ntmps45
  go_wp2_with fail
  refine Hep.out.mono ?_
  rintro e w1 ⟨v1, I1, rfl, hb1, hx1, hok1, hr1⟩
  have hI1 := hI.mono (hx1.keep hw (Nat.le_refl _))
  have Hr1 := Lib.hid hr1
  clear hr1
  obtain ⟨ao0, cap0, rfl, _, _, _⟩ := id Hr1.out
  go_wp2_with fail
  refine (Hed.out I1 hI1 _ hok1).mono ?_
  rintro e w2 ⟨v2, I2, rfl, hb2, hx2, hok2, hr2⟩
  have hr1 := Hr1.out.mono (hx2.keep hok1 (Nat.le_refl _))
  have hb2' := hb1.trans (hb2.mono hb1.size)
  have Hc := Lib.hid (lib_CompareFunc I2 _ _ l m hr1 hr2 w2 hok2)
  obtain ⟨ao2, cap2, rfl, _, _, _⟩ := id hr2
  clear hr1 hr2 Hr1 hx1 hx2
  go_wp2_with fail
  refine Hc.out.mono ?_
  rintro e w3 ⟨rfl, hb3⟩
  go_wp2
  go_ret
  exact ⟨ret_i Hu.out.symm, hb2'.trans (hb3.mono hb2'.size)⟩
end Go.Proofs.YtcbmdghnlbieeaaGreatDoor
