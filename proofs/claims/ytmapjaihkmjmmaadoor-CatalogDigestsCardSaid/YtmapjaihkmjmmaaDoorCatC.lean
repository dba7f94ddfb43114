/-
  Walks of layer 57: padded, Key, Check.
-/
import Derived.Test.YtmapjaihkmjmmaaDoorCatB
import Derived.Test.YtmapjaihkmjmmaaDoorLibA
namespace Go.Proofs.YtmapjaihkmjmmaaDoor
open Go.RowKit
open Go.Lib (repeatL decDigits decDigits_length repeatL_length)

set_option maxRecDepth 100000 in
set_option maxHeartbeats 400000 in
theorem cat_padded (I : IH) (hI : Glob I) (n m : Int) (w : World) (hw : Ok I w) (h0 : 0 ≤ n) (hn : n < 4294967296) (m0 : 0 ≤ m) (hm : m ≤ 100) :
    Calls Tryd.prog 22 #[.int .u64 n, .int .i64 m] w fun e w' => e = .returned (S (repeatL [48] (m.toNat - (decDigits n.toNat).length) ++ decDigits n.toNat)) ∧ Below w.heap.size w w' := by
  have hl : (decDigits n.toNat).length ≤ 10 := by rw [decDigits_length]; exact nDigits_le _ _ (by omega) (by omega)
  go_enter Tryd.func22, Tryd.ntmps22
  go_wp2_with fail
  refine (lib_FormatUint I hI _ _ hw h0 (by omega)).mono ?_
  rintro e w1 ⟨rfl, hb1⟩
  go_wp2_with fail
  refine (lib_Repeat [48] _ _ (by omega) (by omega) (by simp; omega)).mono ?_
  rintro e w2 ⟨rfl, hb2⟩
  have hrl : (repeatL [48] (max 0 (m - ((decDigits n.toNat).length : Int))).toNat).length ≤ 100 := by rw [repeatL_length]; simp; omega
  go_wp2
  go_ret
  exact ⟨ret_s (by rw [show (max 0 (m - ((decDigits n.toNat).length : Int))).toNat = m.toNat - (decDigits n.toNat).length by omega]), hb1.trans (hb2.mono hb1.size)⟩

theorem cat_padded' (I : IH) (hI : Glob I) (n m : Int) (w : World) (hw : Ok I w) (h0 : 0 ≤ n) (hn : n < 4294967296) (m0 : 1 ≤ m) (hm : m ≤ 100) (hp : n.toNat < 10 ^ m.toNat) :
    Calls Tryd.prog 22 #[.int .u64 n, .int .i64 m] w fun e w' => e = .returned (S (refDigits m.toNat n.toNat [])) ∧ Below w.heap.size w w' := by
  rw [← padded_eq _ _ hp (by omega)]
  exact cat_padded I hI n m w hw h0 hn (by omega) hm

set_option maxRecDepth 100000 in
set_option maxHeartbeats 400000 in
theorem cat_Key (I : IH) (hI : Glob I) (r : Rec) (hr : r.Wf) (w : World) (hw : Ok I w) :
    Calls Tryd.prog 10 #[r.v] w fun e w' => e = .returned (S (recKey r)) ∧ Below w.heap.size w w' := by
  have hv := fun w => cat_valid r hr w
  by_cases h0 : recValid r = 0
  · obtain ⟨a, s, d⟩ := r
    obtain ⟨h1, h2, h3, h4⟩ := hr
    have hs : 1 ≤ s ∧ s ≤ 255 := by simp only [recValid] at h0; split at h0 <;> simp_all <;> omega
    obtain ⟨hs1, hs2⟩ := hs
    obtain ⟨q, rfl⟩ := Int.eq_ofNat_of_zero_le (a := s) (by omega)
    have hk : recKey ⟨a, q, d⟩ = refDigits 10 a [] ++ 45 :: refDigits 3 q [] := by simp [recKey, h0]
    have hl1 : (refDigits 10 a []).length ≤ 10 := by simp [refDigits_length]
    have hl2 : (refDigits 3 q []).length ≤ 3 := by simp [refDigits_length]
    rw [h0] at hv
    have hv' := Lib.hid hv; clear hv
    have hk' := Lib.hid hk; clear hk h0
    go_enter Tryd.func10, Tryd.ntmps10
    go_wp2_with (go_at_call 21; refine (hv'.out _).mono ?_; rintro e w' ⟨rfl, hb⟩)
    have hc0 : w'.cell? ⟨w.heap.size, 0, none⟩ = some (.int .u32 a) := by rw [hb.cell (by simp)]; simp
    have hc1 : w'.cell? ⟨w.heap.size, 1, none⟩ = some (.int .i64 q) := by rw [hb.cell (by simp)]; simp
    have hg0 := cell_regrown hc0
    have hg1 := cell_regrown hc1
    have hw0 : IntKind.u64.wrap (a : Int) = a := IntWalk.u64_in _ (by omega)
    have hw1 : IntKind.u64.wrap (q : Int) = q := IntWalk.u64_in _ (by omega)
    have hok : Ok I w' := (hw.alloc _).below (Nat.le_refl _) hb
    refine wp_region_quiet_below (by kernel_rfl) (by kernel_rfl) ?_
    repeat (go_big_quiet_step ((with_reducible exact Calls.regrown_of (cat_padded' I hI _ _ _ (hok.below (Nat.le_refl _) (below_regrown _ _ _)) (by omega) (by omega) (by omega) (by omega) (by simp; omega)))))
    refine wpQuiet_nil ?_
    intro w2 hwq
    have hbq : Below (w').heap.size (w') w2 := by
      obtain ⟨pq, rfl⟩ := hwq
      exact below_regrown _ _ _
    clear hwq
    go_wp2
    go_ret
    refine ⟨ret_s ?_, ?_⟩
    · rw [hk'.out]
    · exact ((Below.refl _ _).alloc (Nat.le_refl _) _).trans ((hb.mono (by simp)).trans (hbq.mono (by have := hb.size; simp at this; omega)))
  · obtain ⟨a, s, d⟩ := r
    obtain ⟨h1, h2, h3, h4⟩ := hr
    generalize hq : recValid ⟨a, s, d⟩ = q at *
    have hq' := Lib.hid hq; clear hq
    have hv' := Lib.hid hv; clear hv
    have hn : (q != 0) = true := by simpa using h0
    go_enter Tryd.func10, Tryd.ntmps10
    go_wp2_with (go_at_call 21; refine (hv'.out _).mono ?_; rintro e w' ⟨rfl, hb⟩)
    go_ret
    exact ⟨ret_s (by simp [recKey, hq'.out, h0]), ((Below.refl _ _).alloc (Nat.le_refl _) _).trans (hb.mono (by simp))⟩

set_option maxRecDepth 100000 in
set_option maxHeartbeats 400000 in
theorem cat_Check (I : IH) (hI : Glob I) (v : Value) (l : List Rec) (hv : RdS tRec I v l) (hl : ∀ r ∈ l, r.Wf) (w : World) (hw : Ok I w) :
    Calls Tryd.prog 12 #[v] w fun e w' => e = .returned (.int .i64 (recCheck l)) ∧ Below w.heap.size w w' := by
  have hlen := hv.len_le
  obtain ⟨ao, cap, rfl, hcap, hcm, _⟩ := id hv
  have Hv := Lib.hid hv; clear hv
  have Hl := Lib.hid hl; clear hl
  go_enter Tryd.func12, Tryd.ntmps12
  go_wp2
  go_loopw [8] (fun s8 wr => ∃ k : Nat, k ≤ l.length ∧ s8 = .int .i64 k ∧ recCheckFrom (if k = 0 then none else l[k-1]?) (l.drop k) = recCheck l ∧ Below w.heap.size w wr) (fun i _ => l.length - (intOf i).toNat)
  case atStart => exact ⟨0, Nat.zero_le _, rfl, rfl, Below.refl _ _⟩
  case round =>
    obtain ⟨k, hk, rfl, hr, hb⟩ := hrel
    have Hr := Lib.hid hr; clear hr
    by_cases hlt : k < l.length
    · have hwr : Ok I wr := hw.below (Nat.le_refl _) hb
      obtain ⟨r, b, off, cap', hlr, hvv, hc0, hc1, hc2⟩ := recAt Hv.out hwr k hlt
      cases hvv
      have Hlr := Lib.hid hlr; clear hlr
      have hrw : r.Wf := Hl.out r (by rw [← Hlr.out]; exact List.getElem_mem hlt)
      have hst : recCheck l = if recValid r ≠ 0 then recValid r else if ((if k = 0 then none else l[k-1]?).any fun p => !(Op.bytesLess (recKey p) (recKey r))) then 14 else recCheckFrom (some r) (l.drop (k+1)) := by
        rw [← Hr.out, List.drop_eq_getElem_cons hlt, Hlr.out]; rfl
      have Hst := Lib.hid hst; clear hst
      have hkr : l[k]? = some r := by rw [List.getElem?_eq_getElem hlt, Hlr.out]
      have Hkr := Lib.hid hkr; clear hkr
      have Hrw := Lib.hid hrw; clear hrw
      go_wp2_with fail
      refine (cat_valid r Hrw.out _).mono ?_
      rintro e w1 ⟨rfl, hb1⟩
      obtain ⟨hx0, hx1, hx2⟩ := recBox rfl hb1
      have hb1' : Below w.heap.size w w1 := hb.trans (Below.trans ((Below.refl _ _).alloc hb.size _) (hb1.mono (by simp; have := hb.size; omega)))
      by_cases h0 : recValid r = 0
      · rw [h0]
        have hw1 : Ok I w1 := hw.below (Nat.le_refl _) hb1'
        by_cases hk0 : k = 0
        · have hd : decide (0 < k) = false := by simp; omega
          go_wp2_with fail
          refine wp_region_quiet_below (by kernel_rfl) (by kernel_rfl) ?_
          repeat (go_big_quiet_step ((fail)))
          refine wpQuiet_nil ?_
          intro w2 hwq
          have hb2 : Below (w1).heap.size (w1) w2 := by
            obtain ⟨pq, rfl⟩ := hwq
            exact below_regrown _ _ _
          clear hwq
          go_wp2
          go_roundw
          case rel => exact ⟨k + 1, by omega, by go_num, (by rw [Hst.out, h0]; subst hk0; simp [show l[0]? = some r from Hkr.out]), hb1'.trans (hb2.mono hb1'.size)⟩
          case measure => simp [intOf]; omega
        · obtain ⟨p, b', off', cap'', hlp, hvv, hp0, hp1, hp2⟩ := recAt Hv.out hw1 (k-1) (by omega)
          cases hvv
          have Hlp := Lib.hid hlp; clear hlp
          have Hkp := Lib.hid (show l[k-1]? = some p by rw [List.getElem?_eq_getElem (by omega), Hlp.out])
          have hg0 := cell_regrown hp0
          have hg1 := cell_regrown hp1
          have hg2 := cell_regrown hp2
          have hy0 := cell_regrown hx0
          have hy1 := cell_regrown hx1
          have hy2 := cell_regrown hx2
          have hd : decide (0 < k) = true := by simp; omega
          have hi : IntKind.i64.wrap ((k : Int) - 1) = (k : Int) - 1 := IntWalk.i64_in _ (by omega)
          have hj : 0 ≤ (k : Int) - 1 := by omega
          have hm : ((k : Int) - 1).toNat = k - 1 := by omega
          go_wp2_with fail
          refine wp_region_quiet_below (by kernel_rfl) (by kernel_rfl) ?_
          repeat (go_big_quiet_step ((with_reducible first | exact Calls.regrown_of (cat_Key I hI p (Hl.out p (by rw [← Hlp.out]; exact List.getElem_mem _)) _ (hw1.below (Nat.le_refl _) (below_regrown _ _ _))) | exact Calls.regrown_of (cat_Key I hI r Hrw.out _ (hw1.below (Nat.le_refl _) (below_regrown _ _ _))))))
          refine wpQuiet_nil ?_
          intro w2 hwq
          have hb2 : Below (w1).heap.size (w1) w2 := by
            obtain ⟨pq, rfl⟩ := hwq
            exact below_regrown _ _ _
          clear hwq
          cases hbl : Op.bytesLess (recKey p) (recKey r)
          · go_wp2
            go_ret
            exact ⟨ret_i (by rw [Hst.out, h0]; simp [hk0, Hkp.out, hbl]), hb1'.trans (hb2.mono hb1'.size)⟩
          · go_wp2
            go_roundw
            case rel => exact ⟨k + 1, by omega, by go_num, (by rw [Hst.out, h0]; simp [hk0, Hkp.out, hbl, Hkr.out]), hb1'.trans (hb2.mono hb1'.size)⟩
            case measure => simp [intOf]; omega
      · have hn : (recValid r != 0) = true := by simpa using h0
        go_wp2
        go_ret
        exact ⟨ret_i (by rw [Hst.out, if_pos h0]), hb1'⟩
    · go_wp2
      go_ret
      refine ⟨ret_i ?_, hb⟩
      rw [← Hr.out, List.drop_of_length_le (by omega)]; rfl
end Go.Proofs.YtmapjaihkmjmmaaDoor
