/-
  Walks of layer 57's Check.
-/
import Derived.Test.YtmapjaihkmjmmaaDoorCatA
namespace Go.Proofs.YtmapjaihkmjmmaaDoor
open Go.RowKit

/-- Check behind a record (if any). -/
def recCheckFrom : Option Rec → List Rec → Int
  | _, [] => 0
  | p, r :: l => if recValid r ≠ 0 then recValid r else if (p.any fun p => !(Op.bytesLess (recKey p) (recKey r))) then 14 else recCheckFrom (some r) l
def recCheck (l : List Rec) : Int := recCheckFrom none l

set_option maxRecDepth 100000 in
set_option maxHeartbeats 400000 in
theorem ref57_Check (I : IH)  (v : Value) (l : List Rec) (hv : RdS tRec I v l) (hl : ∀ r ∈ l, r.Wf) (w : World) (hw : Ok I w) :
    Calls Tryd.prog 13 #[v] w fun e w' => e = .returned (.int .i64 (recCheck l)) ∧ Below w.heap.size w w' := by
  have hlen := hv.len_le
  obtain ⟨ao, cap, rfl, hcap, hcm, _⟩ := id hv
  have Hv := Lib.hid hv; clear hv
  have Hl := Lib.hid hl; clear hl
  go_enter Tryd.func13, Tryd.ntmps13
  go_wp2
  go_loopw [8] (fun s8 wr => ∃ k : Nat, k ≤ l.length ∧ s8 = .int .i64 k ∧ recCheckFrom (if k = 0 then none else l[k-1]?) (l.drop k) = recCheck l ∧ Below w.heap.size w wr) (fun i _ => l.length - (intOf i).toNat)
  case atStart => exact ⟨0, Nat.zero_le _, rfl, rfl, Below.refl _ _⟩
  case round =>
    obtain ⟨k, hk, rfl, hr, hb⟩ := hrel
    have Hr := Lib.hid hr; clear hr
    by_cases hlt : k < l.length
    · have hwr : Ok I wr := hw.below (Nat.le_refl _) hb
      obtain ⟨r, b, off, cap', hlr, hvv, hc0, hc1, hc2⟩ := recAt Hv.out hwr k hlt
      cases hvv
      have Hlr := Lib.hid hlr; clear hlr
      have hrw : r.Wf := Hl.out r (by rw [← Hlr.out]; exact List.getElem_mem hlt)
      have hst : recCheck l = if recValid r ≠ 0 then recValid r else if ((if k = 0 then none else l[k-1]?).any fun p => !(Op.bytesLess (recKey p) (recKey r))) then 14 else recCheckFrom (some r) (l.drop (k+1)) := by
        rw [← Hr.out, List.drop_eq_getElem_cons hlt, Hlr.out]; rfl
      have Hst := Lib.hid hst; clear hst
      have hkr : l[k]? = some r := by rw [List.getElem?_eq_getElem hlt, Hlr.out]
      have Hkr := Lib.hid hkr; clear hkr
      have Hrw := Lib.hid hrw; clear hrw
      go_wp2_with fail
      refine (ref57_valid r Hrw.out _).mono ?_
      rintro e w1 ⟨rfl, hb1⟩
      obtain ⟨hx0, hx1, hx2⟩ := recBox rfl hb1
      have hb1' : Below w.heap.size w w1 := hb.trans (Below.trans ((Below.refl _ _).alloc hb.size _) (hb1.mono (by simp; have := hb.size; omega)))
      by_cases h0 : recValid r = 0
      · rw [h0]
        have hw1 : Ok I w1 := hw.below (Nat.le_refl _) hb1'
        by_cases hk0 : k = 0
        · have hd : decide (0 < k) = false := by simp; omega
          go_wp2_with fail
          refine wp_region_quiet_below (by kernel_rfl) (by kernel_rfl) ?_
          repeat (go_big_quiet_step ((fail)))
          refine wpQuiet_nil ?_
          intro w2 hwq
          have hb2 : Below (w1).heap.size (w1) w2 := by
            obtain ⟨pq, rfl⟩ := hwq
            exact below_regrown _ _ _
          clear hwq
          go_wp2
          go_roundw
          case rel => exact ⟨k + 1, by omega, by go_num, (by rw [Hst.out, h0]; subst hk0; simp [show l[0]? = some r from Hkr.out]), hb1'.trans (hb2.mono hb1'.size)⟩
          case measure => simp [intOf]; omega
        · obtain ⟨p, b', off', cap'', hlp, hvv, hp0, hp1, hp2⟩ := recAt Hv.out hw1 (k-1) (by omega)
          cases hvv
          have Hlp := Lib.hid hlp; clear hlp
          have Hkp := Lib.hid (show l[k-1]? = some p by rw [List.getElem?_eq_getElem (by omega), Hlp.out])
          have hg0 := cell_regrown hp0
          have hg1 := cell_regrown hp1
          have hg2 := cell_regrown hp2
          have hy0 := cell_regrown hx0
          have hy1 := cell_regrown hx1
          have hy2 := cell_regrown hx2
          have hd : decide (0 < k) = true := by simp; omega
          have hi : IntKind.i64.wrap ((k : Int) - 1) = (k : Int) - 1 := IntWalk.i64_in _ (by omega)
          have hj : 0 ≤ (k : Int) - 1 := by omega
          have hm : ((k : Int) - 1).toNat = k - 1 := by omega
          go_wp2_with fail
          refine wp_region_quiet_below (by kernel_rfl) (by kernel_rfl) ?_
          repeat (go_big_quiet_step ((with_reducible first | exact Calls.regrown_of (ref57_Key p (Hl.out p (by rw [← Hlp.out]; exact List.getElem_mem _)) _ ) | exact Calls.regrown_of (ref57_Key r Hrw.out _ ))))
          refine wpQuiet_nil ?_
          intro w2 hwq
          have hb2 : Below (w1).heap.size (w1) w2 := by
            obtain ⟨pq, rfl⟩ := hwq
            exact below_regrown _ _ _
          clear hwq
          cases hbl : Op.bytesLess (recKey p) (recKey r)
          · go_wp2
            go_ret
            exact ⟨ret_i (by rw [Hst.out, h0]; simp [hk0, Hkp.out, hbl]), hb1'.trans (hb2.mono hb1'.size)⟩
          · go_wp2
            go_roundw
            case rel => exact ⟨k + 1, by omega, by go_num, (by rw [Hst.out, h0]; simp [hk0, Hkp.out, hbl, Hkr.out]), hb1'.trans (hb2.mono hb1'.size)⟩
            case measure => simp [intOf]; omega
      · have hn : (recValid r != 0) = true := by simpa using h0
        go_wp2
        go_ret
        exact ⟨ret_i (by rw [Hst.out, if_pos h0]), hb1'⟩
    · go_wp2
      go_ret
      refine ⟨ret_i ?_, hb⟩
      rw [← Hr.out, List.drop_of_length_le (by omega)]; rfl
end Go.Proofs.YtmapjaihkmjmmaaDoor
