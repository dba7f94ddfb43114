/-
  Walks of layer 37 (dirtree): Check.
-/
import Derived.Test.YtcbmdghnlbieeaaGreatDoorPtA
namespace Go.Proofs.YtcbmdghnlbieeaaGreatDoor
open Go.RowKit

/-- Paths and targets short enough for the library. -/
def SmlT (t : List Ent) : Prop := ∀ x ∈ t, x.path.length ≤ 4294967280 ∧ x.target.length ≤ 4294967280
theorem chkTFrom_step (t : List Ent) (q : Option Ent) (x : Ent) (l : List Ent) : chkTFrom t q (x :: l) = if entErr x ≠ 0 then entErr x else if x.kind ≠ 1 ∧ x.kind ≠ 2 ∧ x.kind ≠ 3 then 10 else if (q.any fun y => !(ltP (els y.path) (els x.path))) then 14 else if dirErr t (upP x.path) ≠ 0 then dirErr t (upP x.path) else chkTFrom t (some x) l := rfl
theorem entErr_path {x : Ent} (h : entErr x = 0) : pathErr x.path = 0 ∧ (x.path ≠ [] ∨ 5 ≤ x.kind) := by
  rw [entErr_cont] at h
  split at h
  · omega
  · split at h
    · contradiction
    · rename_i h1 h2
      refine ⟨Classical.byContradiction h2, ?_⟩
      split at h
      · omega
      · rename_i h3
        by_cases hp : x.path = []
        · right; exact Int.not_lt.1 fun h4 => h3 ⟨hp, h4⟩
        · exact .inl hp


set_option maxRecDepth 100000 in
set_option maxHeartbeats 4000000 in
theorem dt_Check (I : IH) (v : Value) (t : List Ent) (hv : RdS tEnt I v t) (hI : Glob I) (ht : AllE t) (hs : SmlT t) (w : World) (hw : Ok I w) :
    Calls Tryz.prog 19 #[v] w fun e w' => e = .returned (.int .i64 (chkT t)) ∧ Below w.heap.size w w' := by
  have hlen := hv.len_le
  obtain ⟨ao, cap, rfl, hcap, hcm, _⟩ := id hv
  have Hv := Lib.hid hv; clear hv
  have Ht := Lib.hid ht; clear ht
  have Hs := Lib.hid hs; clear hs
  have Hdir0 := Lib.hid (fun p w hw => dt_directory I _ t Hv.out p w hw)
  go_enter Tryz.func19, Tryz.ntmps19
  go_wp2_with fail
  go_loopw [11] (fun s11 wr => ∃ k : Nat, k ≤ t.length ∧ s11 = .int .i64 k ∧ chkTFrom t (if k = 0 then none else t[k-1]?) (t.drop k) = chkT t ∧ (∀ y ∈ t.take k, pathErr y.path = 0) ∧ Below w.heap.size w wr) (fun i _ => t.length - (intOf i).toNat)
  case atStart => exact ⟨0, Nat.zero_le _, rfl, rfl, by simp, Below.refl _ _⟩
  case round =>
    obtain ⟨k, hk, rfl, hr, hok, hb⟩ := hrel
    have Hr := Lib.hid hr
    have Hok := Lib.hid hok
    clear hr hok
    have hwr : Ok I wr := hw.below (Nat.le_refl _) hb
    by_cases hlt : k < t.length
    case neg =>
      have Hn := Lib.hid (show chkT t = 0 by rw [← Hr.out, List.drop_of_length_le (by omega)]; rfl)
      go_wp2
      go_ret
      exact ⟨ret_i Hn.out.symm, hb⟩
    obtain ⟨x, va, vx, b, off, cap', hlx, hvv, ⟨c0, c1, c2, c3, c4, c5, c6⟩, h1, h2⟩ := entAt Hv.out hwr k hlt
    cases hvv
    have Hst := Lib.hid (show chkT t = if entErr x ≠ 0 then entErr x else if x.kind ≠ 1 ∧ x.kind ≠ 2 ∧ x.kind ≠ 3 then 10 else if ((if k = 0 then none else t[k-1]?).any fun y => !(ltP (els y.path) (els x.path))) then 14 else if dirErr t (upP x.path) ≠ 0 then dirErr t (upP x.path) else chkTFrom t (some x) (t.drop (k+1)) by
      rw [← Hr.out, List.drop_eq_getElem_cons hlt, hlx, chkTFrom_step])
    have Hkx := Lib.hid (show t[k]? = some x by rw [List.getElem?_eq_getElem hlt, hlx])
    have Hlx := Lib.hid hlx
    have Hxw := Lib.hid (Ht.out x (by rw [← hlx]; exact List.getElem_mem hlt))
    have Hxs := Lib.hid (Hs.out x (by rw [← hlx]; exact List.getElem_mem hlt))
    have Hck := Lib.hid (fun w hw => en_Check I hI x va vx h1 h2 Hxw.out Hxs.out.1 Hxs.out.2 w hw)
    obtain ⟨aa, ca, rfl, _, _, _⟩ := id h1
    obtain ⟨ax, cx, rfl, _, _, _⟩ := id h2
    clear hlx h1 h2
    go_wp2_with fail
    refine (Hck.out _ (hwr.alloc _)).mono ?_
    rintro e w1 ⟨rfl, hb1⟩
    obtain ⟨d0, d1, d2, d3, d4, d5, d6⟩ := entB rfl hb1
    have hb1' := (hb.alloc hb.size _).trans (hb1.mono (by have := hb.size; simp; omega))
    have hok1 : Ok I w1 := (hwr.alloc _).below (Nat.le_refl _) hb1
    clear hb1 c0 c1 c2 c3 c4 c5 c6
    by_cases h0 : entErr x = 0
    case neg =>
      obtain ⟨q, hq⟩ : ∃ q, entErr x = q := ⟨_, rfl⟩
      have hn : (q != 0) = true := by rw [← hq]; simpa using h0
      have Hn := Lib.hid (show chkT t = q by rw [Hst.out, if_pos h0, hq])
      rw [hq]
      clear hq h0
      go_wp2
      go_ret
      exact ⟨ret_i Hn.out.symm, hb1'⟩
    replace Hst := Lib.hid (show chkT t = _ by rw [Hst.out, if_neg (show ¬ entErr x ≠ 0 by omega)])
    have Hpe := Lib.hid (entErr_path h0)
    have hxl : x.path.length ≤ 200 := (pathErr_ok Hpe.out.1).1
    rw [h0]
    clear h0
    by_cases hkk : x.kind ≠ 1 ∧ x.kind ≠ 2 ∧ x.kind ≠ 3
    case pos =>
      have Hn := Lib.hid (show chkT t = 10 by rw [Hst.out, if_pos hkk])
      have Hit := Lib.hid (dt_inTree x.kind)
      have hin : inT x.kind = false := by
        cases h : inT x.kind with
        | false => rfl
        | true => have := inT_iff.1 h; omega
      rw [hin] at Hit
      clear hkk hin
      go_wp2_with fail
      refine (Hit.out _).mono ?_
      rintro e w2 ⟨rfl, rfl⟩
      go_wp2
      go_ret
      exact ⟨ret_i Hn.out.symm, hb1'⟩
    replace Hst := Lib.hid (show chkT t = _ by rw [Hst.out, if_neg hkk])
    have Hk3 := Lib.hid (show x.kind = 1 ∨ x.kind = 2 ∨ x.kind = 3 by omega)
    have hxp : x.path ≠ [] := by
      rcases Hpe.out.2 with h | h
      · exact h
      · have := Hk3.out; omega
    have Hpar := Lib.hid (fun w hw => pn_Parent I hI x.path (by omega) w hw)
    have Hpar2 := Lib.hid (parP_ok Hpe.out.1 hxp)
    have Hdir := Lib.hid (fun w hw => Hdir0.out (upP x.path) w hw)
    clear hkk hxp
    have Hit := Lib.hid (dt_inTree x.kind)
    rw [inT_iff.2 Hk3.out] at Hit
    go_wp2_with fail
    refine (Hit.out _).mono ?_
    rintro e w2 ⟨rfl, rfl⟩
    by_cases hk0 : k = 0
    · have hd : decide (0 < k) = false := decide_eq_false (by omega)
      have hk1 : k < 1 := by omega
      replace Hst := Lib.hid (show chkT t = if dirErr t (upP x.path) ≠ 0 then dirErr t (upP x.path) else chkTFrom t (some x) (t.drop (k+1)) by rw [Hst.out, if_pos hk0]; rfl)
      clear hk0
      have g0 := cell_regrown d0
      have g1 := cell_regrown d1
      go_wp2_with fail
      refine wp_region_quiet_below (by kernel_rfl) (by kernel_rfl) ?_
      repeat (go_big_quiet_step ((fail)))
      refine wpQuiet_nil ?_
      intro w4 hwq
      have hb4 : Below (w1).heap.size (w1) w4 := by
        obtain ⟨pq, rfl⟩ := hwq
        exact below_regrown _ _ _
      clear hwq
      have hb4' := hb1'.trans (hb4.mono hb1'.size)
      have hok4 : Ok I w4 := hok1.below (Nat.le_refl _) hb4
      have d1 := cell_thru hb4 d1
      clear hb4 g0 g1
      go_wp2_with fail
      refine (Hpar.out _ hok4).mono ?_
      rw [Hpar2.out]
      rintro e w5 ⟨rfl, hb5⟩
      have hb5' := hb4'.trans (hb5.mono hb4'.size)
      have hok5 : Ok I w5 := Ok.below hok4 (Nat.le_refl _) hb5
      go_wp2_with fail
      refine (Hdir.out _ hok5).mono ?_
      rintro e w6 ⟨rfl, hb6⟩
      have hb6' := hb5'.trans (hb6.mono hb5'.size)
      by_cases hde : dirErr t (upP x.path) = 0
      · have Hn := Lib.hid (show chkTFrom t (if k + 1 = 0 then none else t[k+1-1]?) (t.drop (k+1)) = chkT t by
          rw [Hst.out, if_neg (show ¬ dirErr t (upP x.path) ≠ 0 by omega), Nat.add_sub_cancel, Hkx.out]; simp)
        rw [hde]
        clear hde
        go_wp2
        go_roundw
        case rel => exact ⟨k + 1, by omega, by go_num, Hn.out, okT_path Hok.out hlt Hlx.out Hpe.out.1, hb6'⟩
        case measure => simp [intOf]; omega
      · obtain ⟨q, hq⟩ : ∃ q, dirErr t (upP x.path) = q := ⟨_, rfl⟩
        have hn : (q != 0) = true := by rw [← hq]; simpa using hde
        have Hn := Lib.hid (show chkT t = q by rw [Hst.out, if_pos hde, hq])
        rw [hq]
        clear hq hde
        go_wp2
        go_ret
        exact ⟨ret_i Hn.out.symm, hb6'⟩
    · obtain ⟨y, vb, vy, b', off', cap'', hly, hvv, ⟨_, e1, _, _, _, _, _⟩, _, _⟩ := entAt Hv.out hok1 (k - 1) (by omega)
      cases hvv
      have hd : decide (0 < k) = true := decide_eq_true (by omega)
      have hkp : 0 < k := by omega
      have hi : IntKind.i64.wrap ((k : Int) - 1) = (k : Int) - 1 := IntWalk.i64_in _ (by omega)
      have hj : 0 ≤ (k : Int) - 1 := by omega
      have hm : ((k : Int) - 1).toNat = k - 1 := by omega
      have hyl : y.path.length ≤ 200 := (pathErr_ok (Hok.out y (by
        rw [← hly]
        have : (t.take k)[k - 1]'(by simp; omega) = t[k - 1] := List.getElem_take
        rw [← this]
        exact List.getElem_mem _))).1
      replace Hst := Lib.hid (show chkT t = if !(ltP (els y.path) (els x.path)) then 14 else if dirErr t (upP x.path) ≠ 0 then dirErr t (upP x.path) else chkTFrom t (some x) (t.drop (k+1)) by
        rw [Hst.out, if_neg hk0, List.getElem?_eq_getElem (by omega), hly]; rfl)
      have Hcmp := Lib.hid (fun w hw => pn_Compare I hI y.path x.path (by omega) (by omega) w hw)
      clear hly hk0
      have g1 := cell_regrown d1
      have f1 := cell_regrown e1
      cases hl : ltP (els y.path) (els x.path)
      · have Hn := Lib.hid (show chkT t = 14 by rw [Hst.out, hl]; rfl)
        have hc := cmpP_ge' hl
        rcases hc with hc | hc
        all_goals
          rw [hc] at Hcmp
          clear hc
          go_wp2_with fail
          refine wp_region_quiet_below (by kernel_rfl) (by kernel_rfl) ?_
          repeat (go_big_quiet_step ((with_reducible exact Calls.regrown_of (Hcmp.out _ (hok1.below (Nat.le_refl _) (below_regrown _ _ _))))))
          refine wpQuiet_nil ?_
          intro w4 hwq
          have hb4 : Below (w1).heap.size (w1) w4 := by
            obtain ⟨pq, rfl⟩ := hwq
            exact below_regrown _ _ _
          clear hwq
          go_wp2
          go_ret
          exact ⟨ret_i Hn.out.symm, hb1'.trans (hb4.mono hb1'.size)⟩
      · replace Hst := Lib.hid (show chkT t = if dirErr t (upP x.path) ≠ 0 then dirErr t (upP x.path) else chkTFrom t (some x) (t.drop (k+1)) by rw [Hst.out, hl]; rfl)
        rw [cmpP_lt' hl] at Hcmp
        clear hl
        go_wp2_with fail
        refine wp_region_quiet_below (by kernel_rfl) (by kernel_rfl) ?_
        repeat (go_big_quiet_step ((with_reducible exact Calls.regrown_of (Hcmp.out _ (hok1.below (Nat.le_refl _) (below_regrown _ _ _))))))
        refine wpQuiet_nil ?_
        intro w4 hwq
        have hb4 : Below (w1).heap.size (w1) w4 := by
          obtain ⟨pq, rfl⟩ := hwq
          exact below_regrown _ _ _
        clear hwq
        have hb4' := hb1'.trans (hb4.mono hb1'.size)
        have hok4 : Ok I w4 := hok1.below (Nat.le_refl _) hb4
        have d1 := cell_thru hb4 d1
        clear hb4 g1 f1
        go_wp2_with fail
        refine (Hpar.out _ hok4).mono ?_
        rw [Hpar2.out]
        rintro e w5 ⟨rfl, hb5⟩
        have hb5' := hb4'.trans (hb5.mono hb4'.size)
        have hok5 : Ok I w5 := Ok.below hok4 (Nat.le_refl _) hb5
        go_wp2_with fail
        refine (Hdir.out _ hok5).mono ?_
        rintro e w6 ⟨rfl, hb6⟩
        have hb6' := hb5'.trans (hb6.mono hb5'.size)
        by_cases hde : dirErr t (upP x.path) = 0
        · have Hn := Lib.hid (show chkTFrom t (if k + 1 = 0 then none else t[k+1-1]?) (t.drop (k+1)) = chkT t by
            rw [Hst.out, if_neg (show ¬ dirErr t (upP x.path) ≠ 0 by omega), Nat.add_sub_cancel, Hkx.out]; simp)
          rw [hde]
          clear hde
          go_wp2
          go_roundw
          case rel => exact ⟨k + 1, by omega, by go_num, Hn.out, okT_path Hok.out hlt Hlx.out Hpe.out.1, hb6'⟩
          case measure => simp [intOf]; omega
        · obtain ⟨q, hq⟩ : ∃ q, dirErr t (upP x.path) = q := ⟨_, rfl⟩
          have hn : (q != 0) = true := by rw [← hq]; simpa using hde
          have Hn := Lib.hid (show chkT t = q by rw [Hst.out, if_pos hde, hq])
          rw [hq]
          clear hq hde
          go_wp2
          go_ret
          exact ⟨ret_i Hn.out.symm, hb6'⟩
end Go.Proofs.YtcbmdghnlbieeaaGreatDoor
