/-
  The laws of layer 37: DirtreeChecks: its walk.
-/
import Derived.Test.YtcbmdghnlbieeaaGreatDoorLtA
namespace Go.Proofs.YtcbmdghnlbieeaaGreatDoor
open Go.RowKit

set_option maxRecDepth 100000 in
set_option maxHeartbeats 2000000 in
theorem law_DirtreeChecks (I : IH) (hI : Glob I) (v : Value) (t : List Ent) (hv : RdS tEnt I v t) (ht : AllE t) (w : World) (hw : Ok I w) :
    Calls Tryz.prog 5 #[v] w fun r w' => r = .returned (.bool true) ∧ Below w.heap.size w w' := by
  have hlen := hv.len_le
  have Hal := Lib.hid (fun w hw => law_alive37 I hI w hw)
  have Hck := Lib.hid (fun hs w hw => dt_Check I _ t hv hI ht hs w hw)
  have Hcr := Lib.hid (fun w hw => ref37_Check I _ t hv ht w hw)
  obtain ⟨ao, cap, rfl, hcap, hcm, _⟩ := id hv
  have Hv := Lib.hid hv; clear hv
  have Ht := Lib.hid ht; clear ht
  by_cases h60 : 60 < t.length
  case pos =>
    go_enter Tryz.func5, Tryz.ntmps5
    go_wp2_with fail
    refine (Hal.out _ hw).mono ?_
    rintro e w1 ⟨rfl, hb1⟩
    go_wp2
    go_ret
    exact ⟨rfl, hb1⟩
  go_enter Tryz.func5, Tryz.ntmps5
  go_wp2_with fail
  refine (Hal.out _ hw).mono ?_
  rintro e w1 ⟨rfl, hb1⟩
  have hok1 : Ok I w1 := hw.below (Nat.le_refl _) hb1
  go_wp2_with fail
  go_loopw [12] (fun s12 wr => ∃ k : Nat, k ≤ t.length ∧ s12 = .int .i64 k ∧ (t.take k).any greatE = false ∧ Below w1.heap.size w1 wr) (fun i _ => t.length - (intOf i).toNat)
  case atStart => exact ⟨0, Nat.zero_le _, rfl, rfl, Below.refl _ _⟩
  case round =>
    obtain ⟨k, hk, rfl, hr, hb⟩ := hrel
    have Hr := Lib.hid hr; clear hr
    have hwr : Ok I wr := hok1.below (Nat.le_refl _) hb
    by_cases hlt : k < t.length
    case neg =>
      have Hg := Lib.hid (show ∀ x ∈ t, greatE x = false by
        have := Hr.out
        rw [List.take_of_length_le (by omega)] at this
        intro x hx
        cases h : greatE x with
        | false => rfl
        | true => exact absurd (List.any_eq_true.2 ⟨x, hx, h⟩) (by rw [this]; simp))
      have he : chkTR t = chkT t := chkTR_eq fun x hx => by have := great_no (Hg.out x hx); omega
      rw [he] at Hcr
      have Hck2 := Lib.hid (Hck.out (sml_of Hg.out))
      generalize chkT t = q at Hcr Hck2
      have hqq : (q == q) = true := beq_self_eq_true q
      clear he
      go_wp2_with fail
      refine (Hck2.out _ hwr).mono ?_
      rintro e w2 ⟨rfl, hb2⟩
      have hb2' := hb.trans (hb2.mono hb.size)
      go_wp2_with fail
      refine (Hcr.out _ (hwr.below (Nat.le_refl _) hb2)).mono ?_
      rintro e w3 ⟨rfl, hb3⟩
      have hb3' := hb2'.trans (hb3.mono hb2'.size)
      go_wp2
      go_ret
      exact ⟨rfl, hb1.trans (hb3'.mono hb1.size)⟩
    obtain ⟨x, va, vx, b, off, cap', hlx, hvv, ⟨c0, c1, c2, c3, c4, c5, c6⟩, h1, h2⟩ := entAt Hv.out hwr k hlt
    cases hvv
    have Hxm := Lib.hid (show x ∈ t by rw [← hlx]; exact List.getElem_mem hlt)
    have Htk := Lib.hid (show t.take (k + 1) = t.take k ++ [x] by rw [List.take_succ_eq_append_getElem hlt, hlx])
    have Hg := Lib.hid (fun w hw => law_small I x va vx h1 h2 (Ht.out x Hxm.out) w hw)
    obtain ⟨aa, ca, rfl, _, _, _⟩ := id h1
    obtain ⟨ax, cx, rfl, _, _, _⟩ := id h2
    clear hlx h1 h2
    cases hg : greatE x
    · have Hn2 := Lib.hid (show (t.take (k + 1)).any greatE = false by rw [Htk.out, List.any_append, Hr.out]; simp [hg])
      rw [hg] at Hg
      clear hg
      go_wp2_with fail
      refine (Hg.out _ (hwr.alloc _)).mono ?_
      rintro e w2 ⟨rfl, hb2⟩
      have hb2' := (hb.alloc hb.size _).trans (hb2.mono (by have := hb.size; simp; omega))
      clear hb2 c0 c1 c2 c3 c4 c5 c6
      go_wp2
      go_roundw
      case rel => exact ⟨k + 1, by omega, by go_num, Hn2.out, hb2'⟩
      case measure => simp [intOf]; omega
    · rw [hg] at Hg
      clear hg
      go_wp2_with fail
      refine (Hg.out _ (hwr.alloc _)).mono ?_
      rintro e w2 ⟨rfl, hb2⟩
      have hb2' := (hb.alloc hb.size _).trans (hb2.mono (by have := hb.size; simp; omega))
      clear hb2 c0 c1 c2 c3 c4 c5 c6
      go_wp2
      go_ret
      exact ⟨rfl, hb1.trans (hb2'.mono hb1.size)⟩
end Go.Proofs.YtcbmdghnlbieeaaGreatDoor
