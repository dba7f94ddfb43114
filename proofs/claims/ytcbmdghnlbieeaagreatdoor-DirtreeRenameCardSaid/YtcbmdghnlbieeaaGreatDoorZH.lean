/-
  Walks of layer 36 (entry): isDate, target.
  Walks of layer 36 (entry): content.
  Walks of layer 36 (entry): Check.
-/
import Derived.Test.YtcbmdghnlbieeaaGreatDoorZG
import Derived.Lib.SmallJoins
import Derived.Lib.AppendIntMem
namespace Go.Proofs.YtcbmdghnlbieeaaGreatDoor
open Go.RowKit

theorem Glob.tab {I : IH} {w : World} (h : Glob I) (hw : Ok I w) : Lib.TabIs Tryz.prog w "internal/strconv.uint64pow10" .u64 Lib.pow10Tab := by
  obtain ⟨e, f, hh⟩ := hw _ _ h.pow
  unfold Lib.TabIs World.var?
  have hg : Tryz.prog.globalNamed "internal/strconv.uint64pow10" = some 1 := by kernel_rfl
  simp [hg, hh]
theorem Glob.vsyn {I : IH} {w : World} (h : Glob I) (hw : Ok I w) : ∃ tp p, w.var? Tryz.prog "strconv.ErrSyntax" = some #[.iface tp p] := by
  obtain ⟨tp, p, h1⟩ := h.syn
  obtain ⟨e, f, hh⟩ := hw _ _ h1
  refine ⟨tp, p, ?_⟩
  unfold World.var?
  have hg : Tryz.prog.globalNamed "strconv.ErrSyntax" = some 2 := by kernel_rfl
  simp [hg, hh]
theorem Glob.vrng {I : IH} {w : World} (h : Glob I) (hw : Ok I w) : ∃ tp p, w.var? Tryz.prog "strconv.ErrRange" = some #[.iface tp p] := by
  obtain ⟨tp, p, h1⟩ := h.rng
  obtain ⟨e, f, hh⟩ := hw _ _ h1
  refine ⟨tp, p, ?_⟩
  unfold World.var?
  have hg : Tryz.prog.globalNamed "strconv.ErrRange" = some 3 := by kernel_rfl
  simp [hg, hh]

theorem lib_Itoa (I : IH) (hI : Glob I) (n : Int) (w : World) (hw : Ok I w) (h0 : -9223372036854775808 ≤ n) (h1 : n ≤ 9223372036854775807) :
    Calls Tryz.prog 89 #[.int .i64 n] w fun e w' => e = .returned (S (Lib.itoa n)) ∧ Below w.heap.size w w' :=
  (Tryz.strconv_Itoa n h0 h1 w (hI.tab hw)).mono fun e w' ⟨he, k, os, hq⟩ => ⟨he, by rw [hq]; exact Lib.below_grow _ _ (Nat.le_refl _) _ _⟩

/-- Atoi that fails. -/
def AtoiBad (w : World) (e : Ending) (w' : World) : Prop := ∃ n N, e = .returned (.tuple #[.int .i64 n, .iface 186 (.pointer (some ⟨N, 0, none⟩))]) ∧ Below w.heap.size w w'
theorem lib_Atoi_ok (s : Bytes) (hs : s.length ≤ 4294967280) (n : Int) (h : Lib.atoiAll s = .ok n) (w : World) :
    Calls Tryz.prog 142 #[S s] w fun e w' => e = .returned (.tuple #[.int .i64 n, .nilIface]) ∧ Below w.heap.size w w' := by
  have hsz : (⟨s.toArray⟩ : ByteArray).size = s.length := by simp [ByteArray.size]
  refine (Tryz.strconv_Atoi_ok ⟨s.toArray⟩ (by omega) n h w).mono fun e w' ⟨h1, h2⟩ => ⟨h1, ?_⟩
  rcases h2 with h2 | ⟨t, h2⟩
  · rw [h2]; exact Below.refl _ _
  · rw [h2]; exact Joins.below_bytesWorld _ _ _ _ (Nat.le_refl _)
theorem lib_Atoi_bad (I : IH) (hI : Glob I) (s : Bytes) (hs : s.length ≤ 4294967280) (h : ∀ n, Lib.atoiAll s ≠ .ok n) (w : World) (hw : Ok I w) :
    Calls Tryz.prog 142 #[S s] w (AtoiBad w) := by
  have hsz : (⟨s.toArray⟩ : ByteArray).size = s.length := by simp [ByteArray.size]
  by_cases hr : Lib.atoiAll s = .range
  · obtain ⟨tp, p, hv⟩ := hI.vrng hw
    exact (Tryz.strconv_Atoi_range_var ⟨s.toArray⟩ (by omega) hr tp p w hv).mono fun e w' ⟨N, h1, _, _, h4⟩ => ⟨_, N, h1, h4⟩
  · obtain ⟨tp, p, hv⟩ := hI.vsyn hw
    exact (Tryz.strconv_Atoi_syntax_var ⟨s.toArray⟩ (by omega) h hr tp p w hv).mono fun e w' ⟨N, h1, _, _, h4⟩ => ⟨0, N, h1, h4⟩

set_option maxRecDepth 100000 in
set_option maxHeartbeats 1000000 in
theorem en_isDate (I : IH) (hI : Glob I) (s : Bytes) (hs : s.length ≤ 4294967280) (w : World) (hw : Ok I w) :
    Calls Tryz.prog 111 #[S s] w fun e w' => e = .returned (.bool (dateOk s)) ∧ Below w.heap.size w w' := by
  have hdi := date_iff s
  by_cases hok : ∃ n, Lib.atoiAll s = .ok n
  case neg =>
    have Hn := Lib.hid (show dateOk s = false by
      cases h : dateOk s with
      | false => rfl
      | true => obtain ⟨n, h1, _⟩ := hdi.1 h; exact absurd ⟨n, h1⟩ hok)
    have Hat := Lib.hid (lib_Atoi_bad I hI s hs (fun n h => hok ⟨n, h⟩) w hw)
    clear hdi hok
    go_enter Tryz.func111, Tryz.ntmps111
    go_wp2_with fail
    refine Hat.out.mono ?_
    rintro e w1 ⟨n, N, rfl, hb1⟩
    go_wp2
    go_ret
    exact ⟨ret_b Hn.out.symm, hb1⟩
  obtain ⟨n, hn⟩ := hok
  have Hat := Lib.hid (lib_Atoi_ok s hs n hn w)
  have Hd := Lib.hid (show dateOk s = (decide (0 ≤ n) && decide (n ≤ 1000000000) && decide (Lib.itoa n = s)) by
    rw [Bool.eq_iff_iff, hdi]
    simp only [Bool.and_eq_true, decide_eq_true_eq]
    constructor
    · rintro ⟨m, h1, h2, h3, h4⟩
      rw [hn] at h1
      injection h1 with h1
      subst h1
      exact ⟨⟨h2, h3⟩, h4⟩
    · rintro ⟨⟨h2, h3⟩, h4⟩
      exact ⟨n, hn, h2, h3, h4⟩)
  clear hdi hn
  by_cases h0 : 0 ≤ n
  case neg =>
    have Hn := Lib.hid (show dateOk s = false by rw [Hd.out, decide_eq_false h0]; rfl)
    go_enter Tryz.func111, Tryz.ntmps111
    go_wp2_with fail
    refine Hat.out.mono ?_
    rintro e w1 ⟨rfl, hb1⟩
    go_wp2
    go_ret
    exact ⟨(by first | exact ret_b Hn.out.symm | (rw [Hn.out]; congr 1; simp; omega)), hb1⟩
  by_cases h1 : n ≤ 1000000000
  case neg =>
    have Hn := Lib.hid (show dateOk s = false by rw [Hd.out, decide_eq_false h1, Bool.and_false]; rfl)
    go_enter Tryz.func111, Tryz.ntmps111
    go_wp2_with fail
    refine Hat.out.mono ?_
    rintro e w1 ⟨rfl, hb1⟩
    go_wp2
    go_ret
    exact ⟨(by first | exact ret_b Hn.out.symm | (rw [Hn.out]; congr 1; simp; omega)), hb1⟩
  have Hn := Lib.hid (show dateOk s = (Lib.itoa n == s) by
    rw [Hd.out, decide_eq_true h0, decide_eq_true h1]
    by_cases h : Lib.itoa n = s <;> simp [h])
  have Hit := Lib.hid (fun w hw => lib_Itoa I hI n w hw (by omega) (by omega))
  obtain ⟨t, ht⟩ : ∃ t, Lib.itoa n = t := ⟨_, rfl⟩
  rw [ht] at Hit Hn
  clear ht
  go_enter Tryz.func111, Tryz.ntmps111
  go_wp2_with fail
  refine Hat.out.mono ?_
  rintro e w1 ⟨rfl, hb1⟩
  go_wp2_with fail
  refine (Hit.out _ (hw.below (Nat.le_refl _) hb1)).mono ?_
  rintro e w2 ⟨rfl, hb2⟩
  go_wp2
  go_ret
  exact ⟨ret_b Hn.out.symm, hb1.trans (hb2.mono hb1.size)⟩

set_option maxRecDepth 100000 in
set_option maxHeartbeats 400000 in
theorem en_target (I : IH) (hI : Glob I) (x : Ent) (hx : x.target.length ≤ 4294967280) (va vx : Value) (w : World) (hw : Ok I w) :
    Calls Tryz.prog 74 #[entV x va vx] w fun e w' => e = .returned (.bool (targetOk x)) ∧ Below w.heap.size w w' := by
  by_cases h3 : x.kind = 3
  · have f3 : ((x.kind : Int) == 3) = true := by simpa using h3
    by_cases h1 : x.target = []
    · have Ht := Lib.hid (show targetOk x = false by rw [targetOk, if_pos h3, h1]; rfl)
      obtain ⟨p1, p2, p3, p4⟩ := eq_emp h1
      clear h3 h1
      go_enter Tryz.func74, Tryz.ntmps74
      go_wp2
      go_ret
      exact ⟨ret_b Ht.out.symm, (Below.refl _ _).alloc (Nat.le_refl _) _⟩
    have hl1 : 1 ≤ x.target.length := List.length_pos_iff.2 h1
    have Ht := Lib.hid (show targetOk x = decide (x.target.length ≤ 200) by rw [targetOk, if_pos h3, decide_eq_true hl1]; rfl)
    obtain ⟨p1, p2, p3, p4⟩ := ne_emp h1
    clear h3 h1
    go_enter Tryz.func74, Tryz.ntmps74
    go_wp2
    go_ret
    exact ⟨ret_b (by rw [Ht.out, decide_eq_decide]; omega), (Below.refl _ _).alloc (Nat.le_refl _) _⟩
  have f3 : ((x.kind : Int) == 3) = false := by simpa using h3
  by_cases h5 : x.kind = 5
  · have f5 : ((x.kind : Int) == 5) = true := by simpa using h5
    have Ht := Lib.hid (show targetOk x = dateOk x.target by rw [targetOk, if_neg h3, if_pos h5])
    clear h3 h5
    go_enter Tryz.func74, Tryz.ntmps74
    go_wp2_with fail
    refine (en_isDate I hI x.target hx _ (hw.alloc _)).mono ?_
    rintro e w1 ⟨rfl, hb1⟩
    go_wp2
    go_ret
    exact ⟨ret_b Ht.out.symm, ((Below.refl _ _).alloc (Nat.le_refl _) _).trans (hb1.mono (by simp))⟩
  have f5 : ((x.kind : Int) == 5) = false := by simpa using h5
  have Ht := Lib.hid (show targetOk x = x.target.isEmpty by rw [targetOk, if_neg h3, if_neg h5])
  clear h3 h5
  go_enter Tryz.func74, Tryz.ntmps74
  go_wp2
  go_ret
  exact ⟨ret_b (by rw [Ht.out]), (Below.refl _ _).alloc (Nat.le_refl _) _⟩
end Go.Proofs.YtcbmdghnlbieeaaGreatDoor
namespace Go.Proofs.YtcbmdghnlbieeaaGreatDoor
open Go.RowKit

/-- Why the size, the digest or the extents of an entry are invalid. -/
def contP (e : Ent) : Int :=
  if e.size < 0 ∨ 65536 < e.size ∨ (e.kind ≠ 1 ∧ e.size ≠ 0) then 2
  else if (e.kind = 1 ∧ e.digest.length ≠ 32) ∨ (e.kind ≠ 1 ∧ e.digest ≠ []) then 1
  else if xtsErr (e.kind == 1) e.exts ≠ 0 then xtsErr (e.kind == 1) e.exts
  else if xtSum e.exts ≠ e.size then 1 else 0

theorem xtSum_split (l : List Xt) (k : Nat) : xtSum l = xtSum (l.take k) + xtSum (l.drop k) := by
  conv => lhs; rw [← List.take_append_drop k l]
  simp only [xtSum, List.map_append, List.sum_append]
theorem xtSum_nn {l : List Xt} (h : ∀ x ∈ l, xtBad x = false) : 0 ≤ xtSum l := (xtSum_bd l.length l rfl h).1


set_option maxRecDepth 100000 in
set_option maxHeartbeats 4000000 in
theorem en_content (I : IH) (x : Ent) (va vx : Value) (hva : RdS tAt I va x.attrs) (hvx : RdS tXt I vx x.exts) (hwf : x.Wf) (w : World) (hw : Ok I w) :
    Calls Tryz.prog 75 #[entV x va vx] w fun e w' => e = .returned (.int .i64 (contP x)) ∧ Below w.heap.size w w' := by
  have hlx := hvx.len_le
  obtain ⟨ao, cap, rfl, hcap, hcm, _⟩ := id hvx
  obtain ⟨ao2, cap2, rfl, _, _, _⟩ := id hva
  have Hvx := Lib.hid hvx
  have hs0 := hwf.s0
  have hs1 := hwf.s1
  have hd1 := hwf.digest
  clear hvx hva hwf
  have hB0 : EntB (w.alloc (.cells #[.int .i64 x.kind, S x.path, .slice ao2 x.attrs.length cap2, S x.target, .int .i64 x.size, S x.digest, .slice ao x.exts.length cap] 26)) w.heap.size x (.slice ao2 x.attrs.length cap2) (.slice ao x.exts.length cap) := entB rfl (Below.refl _ _)
  have HB0 := Lib.hid hB0
  clear hB0
  by_cases hn0 : x.size < 0
  case pos =>
    have Hn := Lib.hid (show contP x = 2 by rw [contP, if_pos (.inl hn0)])
    by_cases hf : x.kind = 1
    · have f1 : ((x.kind : Int) == 1) = true := by simpa using hf
      clear hf
      go_enter Tryz.func75, Tryz.ntmps75
      go_wp2
      go_ret
      exact ⟨ret_i Hn.out.symm, (Below.refl _ _).alloc (Nat.le_refl _) _⟩
    · have f1 : ((x.kind : Int) == 1) = false := by simpa using hf
      clear hf
      go_enter Tryz.func75, Tryz.ntmps75
      go_wp2
      go_ret
      exact ⟨ret_i Hn.out.symm, (Below.refl _ _).alloc (Nat.le_refl _) _⟩
  by_cases hf : x.kind = 1
  · have f1 : ((x.kind : Int) == 1) = true := by simpa using hf
    have f2 : ((x.kind : Int) != 1) = false := by simpa using hf
    by_cases hn6 : 65536 < x.size
    case pos =>
      have Hn := Lib.hid (show contP x = 2 by rw [contP, if_pos (.inr (.inl hn6))])
      clear hf
      go_enter Tryz.func75, Tryz.ntmps75
      go_wp2
      go_ret
      exact ⟨ret_i Hn.out.symm, (Below.refl _ _).alloc (Nat.le_refl _) _⟩
    by_cases hdl : x.digest.length = 32
    case neg =>
      have Hn := Lib.hid (show contP x = 1 by rw [contP, if_neg (by omega), if_pos (.inl ⟨hf, hdl⟩)])
      have z1 : ((x.digest.length : Int) != 32) = true := by rw [bne_iff_ne]; omega
      clear hf hdl
      go_enter Tryz.func75, Tryz.ntmps75
      go_wp2
      go_ret
      exact ⟨ret_i Hn.out.symm, (Below.refl _ _).alloc (Nat.le_refl _) _⟩
    have z1 : ((x.digest.length : Int) != 32) = false := by rw [hdl]; rfl
    have Hc := Lib.hid (show contP x = if xtsErr true x.exts ≠ 0 then xtsErr true x.exts else if xtSum x.exts ≠ x.size then 1 else 0 by
      rw [contP, if_neg (by omega), if_neg (by
        rintro (⟨_, h⟩ | ⟨h, _⟩)
        · exact h hdl
        · exact h hf), f1])
    have Hfk := Lib.hid hf
    clear hf hdl
    go_enter Tryz.func75, Tryz.ntmps75
    go_wp2_with fail
    go_loopw [32] (fun s32 wr => ∃ k : Nat, k ≤ x.exts.length ∧ s32 = .int .i64 k ∧ xtsErr true (x.exts.drop k) = xtsErr true x.exts ∧ EntB wr w.heap.size x (.slice ao2 x.attrs.length cap2) (.slice ao x.exts.length cap) ∧ Below w.heap.size w wr ∧ w.heap.size < wr.heap.size) (fun i _ => x.exts.length - (intOf i).toNat)
    case atStart => exact ⟨0, Nat.zero_le _, rfl, rfl, HB0.out, (Below.refl _ _).alloc (Nat.le_refl _) _, by simp⟩
    case round =>
      clear HB0
      obtain ⟨k, hk, rfl, hr, hBw, hb, hsz⟩ := hrel
      have Hr := Lib.hid hr; clear hr
      have HBw := Lib.hid hBw
      obtain ⟨c0, c1, c2, c3, c4, c5, c6⟩ := hBw
      have hwr : Ok I wr := hw.below (Nat.le_refl _) hb
      by_cases hlt : k < x.exts.length
      · obtain ⟨y, b, off, cap', hly, hvv, e0, e1, e2⟩ := xtAt Hvx.out hwr k hlt
        cases hvv
        have Hdr := Lib.hid (show x.exts.drop k = y :: x.exts.drop (k + 1) by rw [List.drop_eq_getElem_cons hlt, hly])
        have Hst := Lib.hid (show contP x = if (if xtBad y then 2 else xtsErr true (x.exts.drop (k + 1))) ≠ 0 then (if xtBad y then 2 else xtsErr true (x.exts.drop (k + 1))) else if xtSum x.exts ≠ x.size then 1 else 0 by
          rw [Hc.out, ← Hr.out, Hdr.out, xtsErr_step])
        clear hly
        by_cases h1 : y.s < 0
        · have Hbad := Lib.hid (show contP x = 2 by rw [Hst.out, if_pos (show xtBad y = true by unfold xtBad; simp; omega)]; rfl)
          go_wp2
          go_ret
          exact ⟨ret_i Hbad.out.symm, hb.alloc hb.size _⟩
        by_cases h2 : 255 < y.s
        · have Hbad := Lib.hid (show contP x = 2 by rw [Hst.out, if_pos (show xtBad y = true by unfold xtBad; simp; omega)]; rfl)
          go_wp2
          go_ret
          exact ⟨ret_i Hbad.out.symm, hb.alloc hb.size _⟩
        by_cases h5 : y.n < 1
        · have Hbad := Lib.hid (show contP x = 2 by rw [Hst.out, if_pos (show xtBad y = true by unfold xtBad; simp; omega)]; rfl)
          go_wp2
          go_ret
          exact ⟨ret_i Hbad.out.symm, hb.alloc hb.size _⟩
        by_cases h6 : 65536 < y.n
        · have Hbad := Lib.hid (show contP x = 2 by rw [Hst.out, if_pos (show xtBad y = true by unfold xtBad; simp; omega)]; rfl)
          go_wp2
          go_ret
          exact ⟨ret_i Hbad.out.symm, hb.alloc hb.size _⟩
        by_cases h3 : y.o < 0
        · have Hbad := Lib.hid (show contP x = 2 by rw [Hst.out, if_pos (show xtBad y = true by unfold xtBad; simp; omega)]; rfl)
          go_wp2
          go_ret
          exact ⟨ret_i Hbad.out.symm, hb.alloc hb.size _⟩
        by_cases h4 : 2147483647 < y.o
        · have Hbad := Lib.hid (show contP x = 2 by rw [Hst.out, if_pos (show xtBad y = true by unfold xtBad; simp; omega)]; rfl)
          go_wp2
          go_ret
          exact ⟨ret_i Hbad.out.symm, hb.alloc hb.size _⟩
        by_cases h7 : y.s = 0
        · have g7 : (y.s == 0) = true := by simpa using h7
          by_cases h8 : y.o = 0
          · have g8 : (y.o != 0) = false := by simpa using h8
            have Hnx := Lib.hid (show xtsErr true (x.exts.drop (k + 1)) = xtsErr true x.exts by
              rw [← Hr.out, Hdr.out, xtsErr_step, if_neg (show ¬ xtBad y = true by unfold xtBad; simp; omega)])
            go_wp2
            go_roundw
            case rel => exact ⟨k + 1, by omega, by go_num, Hnx.out, HBw.out.past _, hb.alloc hb.size _, by simp; omega⟩
            case measure => simp [intOf]; omega
          · have g8 : (y.o != 0) = true := by simpa using h8
            have Hbad := Lib.hid (show contP x = 2 by rw [Hst.out, if_pos (show xtBad y = true by unfold xtBad; simp; omega)]; rfl)
            go_wp2
            go_ret
            exact ⟨ret_i Hbad.out.symm, hb.alloc hb.size _⟩
        · have g7 : (y.s == 0) = false := by simpa using h7
          have Hnx := Lib.hid (show xtsErr true (x.exts.drop (k + 1)) = xtsErr true x.exts by
            rw [← Hr.out, Hdr.out, xtsErr_step, if_neg (show ¬ xtBad y = true by unfold xtBad; simp; omega)])
          go_wp2
          go_roundw
          case rel => exact ⟨k + 1, by omega, by go_num, Hnx.out, HBw.out.past _, hb.alloc hb.size _, by simp; omega⟩
          case measure => simp [intOf]; omega
      · have Hx0 := Lib.hid (show xtsErr true x.exts = 0 by rw [← Hr.out, List.drop_of_length_le (by omega)]; rfl)
        have Hgood := Lib.hid (xtsErr_ok _ Hx0.out)
        have Hc2 := Lib.hid (show contP x = if xtSum x.exts ≠ x.size then 1 else 0 by rw [Hc.out, Hx0.out]; rfl)
        go_wp2_with fail
        go_loopw [5, 81] (fun s5 s81 wq => ∃ (j : Nat) (r : Int), j ≤ x.exts.length ∧ s81 = .int .i64 j ∧ s5 = .int .i64 r ∧ 0 ≤ r ∧ r ≤ 65536 ∧ r = x.size - xtSum (x.exts.take j) ∧ Below w.heap.size w wq) (fun _ i _ => x.exts.length - (intOf i).toNat)
        case atStart => exact ⟨0, x.size, Nat.zero_le _, rfl, rfl, by omega, by omega, by simp [xtSum], hb⟩
        case round =>
          clear c0 c1 c2 c3 c4 c5 c6 hwr hb
          obtain ⟨j, r, hj, rfl, rfl, hr0, hr6, hrr, hb⟩ := hrel
          have Hrr := Lib.hid hrr; clear hrr
          have hwr : Ok I wr := hw.below (Nat.le_refl _) hb
          by_cases hlt2 : j < x.exts.length
          · obtain ⟨y, b, off, cap', hly, hvv, e0, e1, e2⟩ := xtAt Hvx.out hwr j hlt2
            cases hvv
            have hym : xtBad y = false := Hgood.out y (by rw [← hly]; exact List.getElem_mem hlt2)
            have hyl := xtBad_len hym
            have Htk := Lib.hid (show xtSum (x.exts.take (j + 1)) = xtSum (x.exts.take j) + y.n by rw [List.take_succ_eq_append_getElem hlt2, hly, xtSum_snoc])
            clear hly hym
            by_cases hgt : r < y.n
            · have Hn := Lib.hid (show contP x = 1 by
                rw [Hc2.out, if_pos]
                have h1 := xtSum_split x.exts (j + 1)
                have h2 := xtSum_nn (l := x.exts.drop (j + 1)) fun z hz => Hgood.out z (List.mem_of_mem_drop hz)
                have h3 := Htk.out
                have h4 := Hrr.out
                omega)
              go_wp2
              go_ret
              exact ⟨ret_i Hn.out.symm, hb.alloc hb.size _⟩
            · have hw1 : IntKind.i64.wrap (r - y.n) = r - y.n := IntWalk.i64_in _ (by omega)
              go_wp2
              go_roundw
              case rel => exact ⟨j + 1, r - y.n, by omega, by go_num, by go_num, by omega, by omega, (by have h3 := Htk.out; have h4 := Hrr.out; omega), hb.alloc hb.size _⟩
              case measure => simp [intOf]; omega
          · have hall : x.exts.take j = x.exts := List.take_of_length_le (by omega)
            rw [hall] at Hrr
            clear hall
            by_cases hz : r = 0
            · have z0 : (r != 0) = false := by simpa using hz
              have Hn := Lib.hid (show contP x = 0 by rw [Hc2.out, if_neg]; have := Hrr.out; omega)
              clear hz
              go_wp2
              go_ret
              exact ⟨ret_i Hn.out.symm, hb⟩
            · have z0 : (r != 0) = true := by simpa using hz
              have Hn := Lib.hid (show contP x = 1 by rw [Hc2.out, if_pos]; have := Hrr.out; omega)
              clear hz
              go_wp2
              go_ret
              exact ⟨ret_i Hn.out.symm, hb⟩
  · have f1 : ((x.kind : Int) == 1) = false := by simpa using hf
    have f2 : ((x.kind : Int) != 1) = true := by simpa using hf
    by_cases hz : x.size = 0
    case neg =>
      have Hn := Lib.hid (show contP x = 2 by rw [contP, if_pos (.inr (.inr ⟨hf, hz⟩))])
      have hgt : 0 < x.size := by omega
      clear hf hz
      go_enter Tryz.func75, Tryz.ntmps75
      go_wp2
      go_ret
      exact ⟨ret_i Hn.out.symm, (Below.refl _ _).alloc (Nat.le_refl _) _⟩
    have hsz1 : x.size ≤ 0 := by omega
    by_cases hdl : x.digest.length = 0
    case neg =>
      have Hn := Lib.hid (show contP x = 1 by rw [contP, if_neg (by omega), if_pos (.inr ⟨hf, fun e => hdl (by rw [e]; rfl)⟩)])
      have z1 : ((x.digest.length : Int) != 0) = true := by rw [bne_iff_ne]; omega
      clear hf hdl
      go_enter Tryz.func75, Tryz.ntmps75
      go_wp2
      go_ret
      exact ⟨ret_i Hn.out.symm, (Below.refl _ _).alloc (Nat.le_refl _) _⟩
    have z1 : ((x.digest.length : Int) != 0) = false := by rw [hdl]; rfl
    have Hc := Lib.hid (show contP x = if xtsErr false x.exts ≠ 0 then xtsErr false x.exts else if xtSum x.exts ≠ x.size then 1 else 0 by
      rw [contP, if_neg (by omega), if_neg (by
        rintro (⟨h, _⟩ | ⟨_, h⟩)
        · exact hf h
        · exact h (List.eq_nil_of_length_eq_zero hdl)), f1])
    have Hz := Lib.hid hz
    clear hf hdl hz
    by_cases hl0 : 0 < x.exts.length
    · obtain ⟨y, b, off, cap', hly, hvv, e0, e1, e2⟩ := xtAt Hvx.out (hw.alloc (.cells #[.int .i64 x.kind, S x.path, .slice ao2 x.attrs.length cap2, S x.target, .int .i64 x.size, S x.digest, .slice ao x.exts.length cap] 26)) 0 hl0
      cases hvv
      have hxe : x.exts = y :: x.exts.drop 1 := by rw [← hly, ← List.drop_eq_getElem_cons hl0]; rfl
      have Hn := Lib.hid (show contP x = 1 by rw [Hc.out, hxe]; rfl)
      rw [Nat.zero_mul, Nat.add_zero] at e0 e1 e2
      clear hly hxe
      go_enter Tryz.func75, Tryz.ntmps75
      go_wp2_with fail
      go_loopw [32] (fun s32 wr => s32 = .int .i64 0 ∧ w.alloc (.cells #[.int .i64 x.kind, S x.path, .slice ao2 x.attrs.length cap2, S x.target, .int .i64 x.size, S x.digest, .slice (some ⟨b, off, none⟩) x.exts.length cap] 26) = wr) (fun _ _ => 0)
      case atStart => exact ⟨rfl, rfl⟩
      case round =>
        obtain ⟨rfl, hwr⟩ := hrel
        subst hwr
        go_wp2
        go_ret
        exact ⟨ret_i Hn.out.symm, ((Below.refl _ _).alloc (Nat.le_refl _) _).alloc (by simp) _⟩
    · have Hx0 := Lib.hid (show x.exts = [] from List.eq_nil_of_length_eq_zero (by omega))
      have Hn := Lib.hid (show contP x = 0 by rw [Hc.out, Hx0.out, Hz.out]; rfl)
      have z0 : (x.size != 0) = false := by rw [Hz.out]; rfl
      go_enter Tryz.func75, Tryz.ntmps75
      go_wp2_with fail
      go_loopw [32] (fun s32 wr => s32 = .int .i64 0 ∧ w.alloc (.cells #[.int .i64 x.kind, S x.path, .slice ao2 x.attrs.length cap2, S x.target, .int .i64 x.size, S x.digest, .slice ao x.exts.length cap] 26) = wr) (fun _ _ => 0)
      case atStart => exact ⟨rfl, rfl⟩
      case round =>
        obtain ⟨rfl, hwr⟩ := hrel
        subst hwr
        go_wp2_with fail
        go_loopw [5, 81] (fun s5 s81 wr => s5 = .int .i64 x.size ∧ s81 = .int .i64 0 ∧ w.alloc (.cells #[.int .i64 x.kind, S x.path, .slice ao2 x.attrs.length cap2, S x.target, .int .i64 x.size, S x.digest, .slice ao x.exts.length cap] 26) = wr) (fun _ _ _ => 0)
        case atStart => exact ⟨rfl, rfl, rfl⟩
        case round =>
          obtain ⟨rfl, rfl, hwr⟩ := hrel
          subst hwr
          go_wp2
          go_ret
          exact ⟨ret_i Hn.out.symm, (Below.refl _ _).alloc (Nat.le_refl _) _⟩
end Go.Proofs.YtcbmdghnlbieeaaGreatDoor
namespace Go.Proofs.YtcbmdghnlbieeaaGreatDoor
open Go.RowKit

theorem entErr_cont (e : Ent) : entErr e =
  if e.kind < 1 ∨ 6 < e.kind then 10
  else if pathErr e.path ≠ 0 then pathErr e.path
  else if e.path = [] ∧ e.kind < 5 then 1
  else if chk e.attrs ≠ 0 then chk e.attrs
  else if (e.attrs ≠ [] ∧ 3 < e.kind) ∨ targetOk e = false then 1 else contP e := rfl


set_option maxRecDepth 100000 in
set_option maxHeartbeats 4000000 in
theorem en_Check (I : IH) (hI : Glob I) (x : Ent) (va vx : Value) (hva : RdS tAt I va x.attrs) (hvx : RdS tXt I vx x.exts) (hwf : x.Wf) (hpl : x.path.length ≤ 4294967280) (htl : x.target.length ≤ 4294967280) (w : World) (hw : Ok I w) :
    Calls Tryz.prog 35 #[entV x va vx] w fun e w' => e = .returned (.int .i64 (entErr x)) ∧ Below w.heap.size w w' := by
  have hlx := hvx.len_le
  have hla := hva.len_le
  have Hct := Lib.hid (fun w hw => en_content I x va vx hva hvx hwf w hw)
  have Htg := Lib.hid (fun w hw => en_target I hI x htl va vx w hw)
  obtain ⟨ao, cap, rfl, hcap, hcm, _⟩ := id hvx
  obtain ⟨ao2, cap2, rfl, hcap2, hcm2, _⟩ := id hva
  have Hva := Lib.hid hva
  clear hvx hva
  have Hpc := Lib.hid (fun w hw => pn_Check I hI x.path hpl w hw)
  have Hac := Lib.hid (fun w hw => at_Check I _ x.attrs Hva.out hwf.attrs w hw)
  have hs0 := hwf.s0
  have hs1 := hwf.s1
  have hk0 := hwf.k0
  have hk1 := hwf.k1
  have hd1 := hwf.digest
  clear hwf
  by_cases hkl : x.kind < 1
  case pos =>
    have Hn := Lib.hid (show entErr x = 10 by rw [entErr_cont, if_pos (.inl hkl)])
    go_enter Tryz.func35, Tryz.ntmps35
    go_wp2
    go_ret
    exact ⟨ret_i Hn.out.symm, (Below.refl _ _).alloc (Nat.le_refl _) _⟩
  by_cases hkg : 6 < x.kind
  case pos =>
    have Hn := Lib.hid (show entErr x = 10 by rw [entErr_cont, if_pos (.inr hkg)])
    go_enter Tryz.func35, Tryz.ntmps35
    go_wp2
    go_ret
    exact ⟨ret_i Hn.out.symm, (Below.refl _ _).alloc (Nat.le_refl _) _⟩
  have He := Lib.hid (show entErr x = _ by rw [entErr_cont, if_neg (show ¬ (x.kind < 1 ∨ 6 < x.kind) by omega)])
  by_cases hpe : pathErr x.path = 0
  case neg =>
    obtain ⟨q, hq⟩ : ∃ q, pathErr x.path = q := ⟨_, rfl⟩
    have hn : (q != 0) = true := by rw [← hq]; simpa using hpe
    have Hn := Lib.hid (show entErr x = q by rw [He.out, if_pos hpe, hq])
    rw [hq] at Hpc
    clear hq hpe
    go_enter Tryz.func35, Tryz.ntmps35
    go_wp2_with fail
    refine (Hpc.out _ (hw.alloc _)).mono ?_
    rintro e w1 ⟨rfl, hb1⟩
    have hb1' : Below w.heap.size w w1 := ((Below.refl _ _).alloc (Nat.le_refl _) _).trans (hb1.mono (by simp))
    have hsz1 : w.heap.size < w1.heap.size := by have := hb1.size; simp at this; omega
    have hok1 : Ok I w1 := (hw.alloc _).below (Nat.le_refl _) hb1
    obtain ⟨c0, c1, c2, c3, c4, c5, c6⟩ := entB rfl hb1
    clear hb1
    go_wp2
    go_ret
    exact ⟨ret_i Hn.out.symm, hb1'⟩
  replace He := Lib.hid (show entErr x = _ by rw [He.out, if_neg (show ¬ pathErr x.path ≠ 0 by omega)])
  rw [hpe] at Hpc
  clear hpe
  by_cases he5 : x.path = [] ∧ x.kind < 5
  case pos =>
    have Hn := Lib.hid (show entErr x = 1 by rw [He.out, if_pos he5])
    obtain ⟨p1, p2, p3, p4⟩ := eq_emp he5.1
    have k5 : ((x.kind : Int) != 5) = true := by rw [bne_iff_ne]; omega
    have k6 : ((x.kind : Int) != 6) = true := by rw [bne_iff_ne]; omega
    have hk5 := he5.2
    clear he5
    go_enter Tryz.func35, Tryz.ntmps35
    go_wp2_with fail
    refine (Hpc.out _ (hw.alloc _)).mono ?_
    rintro e w1 ⟨rfl, hb1⟩
    have hb1' : Below w.heap.size w w1 := ((Below.refl _ _).alloc (Nat.le_refl _) _).trans (hb1.mono (by simp))
    have hsz1 : w.heap.size < w1.heap.size := by have := hb1.size; simp at this; omega
    have hok1 : Ok I w1 := (hw.alloc _).below (Nat.le_refl _) hb1
    obtain ⟨c0, c1, c2, c3, c4, c5, c6⟩ := entB rfl hb1
    clear hb1
    go_wp2
    go_ret
    exact ⟨ret_i Hn.out.symm, hb1'⟩
  replace He := Lib.hid (show entErr x = _ by rw [He.out, if_neg he5])
  have hpp : (((x.path == []) = true ∧ x.path.isEmpty = true ∧ (!x.path.isEmpty) = false ∧ (x.path != []) = false) ∧ (x.kind = 5 ∨ x.kind = 6)) ∨ ((x.path == []) = false ∧ x.path.isEmpty = false ∧ (!x.path.isEmpty) = true ∧ (x.path != []) = true) := by
    by_cases h : x.path = []
    · left; exact ⟨eq_emp h, by have := Int.not_lt.1 fun h2 => he5 ⟨h, h2⟩; omega⟩
    · right
      exact ne_emp h
  clear he5
  go_enter Tryz.func35, Tryz.ntmps35
  go_wp2_with fail
  refine (Hpc.out _ (hw.alloc _)).mono ?_
  rintro e w1 ⟨rfl, hb1⟩
  have hb1' : Below w.heap.size w w1 := ((Below.refl _ _).alloc (Nat.le_refl _) _).trans (hb1.mono (by simp))
  have hsz1 : w.heap.size < w1.heap.size := by have := hb1.size; simp at this; omega
  have hok1 : Ok I w1 := (hw.alloc _).below (Nat.le_refl _) hb1
  obtain ⟨c0, c1, c2, c3, c4, c5, c6⟩ := entB rfl hb1
  clear hb1
  clear Hpc
  go_upto_region 6 with fail
  go_cut [31] (fun s31 wx => s31 = .bool false ∧ w1 = wx)
  case first =>
    rcases hpp with ⟨⟨p1, p2, p3, p4⟩, p5 | p5⟩ | ⟨p1, p2, p3, p4⟩
    · have k5 : ((x.kind : Int) != 5) = false := by rw [p5]; rfl
      clear p5
      go_wp2_with fail
      go_meet
      exact ⟨rfl, rfl⟩
    · have k5 : ((x.kind : Int) != 5) = true := by rw [p5]; rfl
      have k6 : ((x.kind : Int) != 6) = false := by rw [p5]; rfl
      clear p5
      go_wp2_with fail
      go_meet
      exact ⟨rfl, rfl⟩
    · go_wp2_with fail
      go_meet
      exact ⟨rfl, rfl⟩
  case rest =>
    obtain ⟨rfl, hcut⟩ := hcut
    subst hcut
    clear hpp
    go_wp2_with fail
    refine (Hac.out _ hok1).mono ?_
    rintro e w2 ⟨rfl, hb2⟩
    have hb2' := hb1'.trans (hb2.mono (Nat.le_of_lt hsz1))
    have hsz2 : w.heap.size < w2.heap.size := by have := hb2.size; omega
    have hok2 : Ok I w2 := hok1.below (Nat.le_refl _) hb2
    obtain ⟨c0, c1, c2, c3, c4, c5, c6⟩ := EntB.thru (⟨c0, c1, c2, c3, c4, c5, c6⟩ : EntB w1 w.heap.size x _ _) hb2
    clear hb2 hb1' hsz1 hok1
    by_cases hca : chk x.attrs = 0
    case neg =>
      obtain ⟨q, hq⟩ : ∃ q, chk x.attrs = q := ⟨_, rfl⟩
      have hn : (q != 0) = true := by rw [← hq]; simpa using hca
      have Hn := Lib.hid (show entErr x = q by rw [He.out, if_pos hca, hq])
      rw [hq]
      clear hq hca
      go_wp2
      go_ret
      exact ⟨ret_i Hn.out.symm, hb2'⟩
    replace He := Lib.hid (show entErr x = _ by rw [He.out, if_neg (show ¬ chk x.attrs ≠ 0 by omega)])
    rw [hca]
    clear hca Hac
    go_upto_region 11 with fail
    go_cut [51] (fun s51 wx => ∃ w3, w3 = wx ∧ (s51 = .bool true ∧ entErr x = 1 ∨ s51 = .bool false ∧ ¬ ((x.attrs ≠ [] ∧ 3 < x.kind) ∨ targetOk x = false)) ∧ Below w2.heap.size w2 w3)
    case first =>
      have hmain : x.attrs.length < 1 ∨ (0 < x.attrs.length ∧ 3 < x.kind) ∨ (0 < x.attrs.length ∧ x.kind ≤ 3) := by omega
      rcases hmain with ha | ⟨ha, hk3⟩ | ⟨ha, hk3⟩
      · have d0 : decide (0 < x.attrs.length) = false := decide_eq_false (by omega)
        have Ha0 := Lib.hid (show x.attrs = [] from List.eq_nil_of_length_eq_zero (by omega))
        go_wp2_with fail
        refine (Htg.out _ hok2).mono ?_
        rintro e w3 ⟨rfl, hb3⟩
        cases htg : targetOk x
        · have Hn := Lib.hid (show entErr x = 1 by rw [He.out, if_pos (.inr htg)])
          clear htg
          go_wp2_with fail
          go_meet
          exact ⟨_, rfl, .inl ⟨rfl, Hn.out⟩, hb3⟩
        · go_wp2_with fail
          go_meet
          refine ⟨_, rfl, .inr ⟨(by first | rfl | (congr 1; exact decide_eq_false (by omega))), ?_⟩, hb3⟩
          rintro (⟨h1, h2⟩ | h1)
          · first
              | exact h1 Ha0.out
              | omega
          · rw [htg] at h1; exact absurd h1 (by simp)
      · have d0 : decide (0 < x.attrs.length) = true := decide_eq_true ha
        have Hn := Lib.hid (show entErr x = 1 by rw [He.out, if_pos (.inl ⟨by intro e; rw [e] at ha; simp at ha, hk3⟩)])
        go_wp2_with fail
        go_meet
        exact ⟨_, rfl, .inl ⟨(by first | rfl | (congr 1; exact decide_eq_true (by omega))), Hn.out⟩, Below.refl _ _⟩
      · have d0 : decide (0 < x.attrs.length) = true := decide_eq_true ha
        go_wp2_with fail
        refine (Htg.out _ hok2).mono ?_
        rintro e w3 ⟨rfl, hb3⟩
        cases htg : targetOk x
        · have Hn := Lib.hid (show entErr x = 1 by rw [He.out, if_pos (.inr htg)])
          clear htg
          go_wp2_with fail
          go_meet
          exact ⟨_, rfl, .inl ⟨rfl, Hn.out⟩, hb3⟩
        · go_wp2_with fail
          go_meet
          refine ⟨_, rfl, .inr ⟨(by first | rfl | (congr 1; exact decide_eq_false (by omega))), ?_⟩, hb3⟩
          rintro (⟨h1, h2⟩ | h1)
          · first
              | exact h1 Ha0.out
              | omega
          · rw [htg] at h1; exact absurd h1 (by simp)
    case rest =>
      obtain ⟨w3, hw3, htt, hb3⟩ := hcut
      subst hw3
      have hb3' := hb2'.trans (hb3.mono (Nat.le_of_lt hsz2))
      have hok3 : Ok I w3 := hok2.below (Nat.le_refl _) hb3
      obtain ⟨c0, c1, c2, c3, c4, c5, c6⟩ := EntB.thru (⟨c0, c1, c2, c3, c4, c5, c6⟩ : EntB w2 w.heap.size x _ _) hb3
      clear hb3 hb2' hsz2 hok2 Htg
      rcases htt with ⟨rfl, hn⟩ | ⟨rfl, htt⟩
      · have Hn := Lib.hid hn
        clear hn
        go_wp2
        go_ret
        exact ⟨ret_i Hn.out.symm, hb3'⟩
      have Hn := Lib.hid (show entErr x = contP x by rw [He.out, if_neg htt])
      clear htt
      go_wp2_with fail
      refine (Hct.out _ hok3).mono ?_
      rintro e w4 ⟨rfl, hb4⟩
      go_wp2
      go_ret
      exact ⟨ret_i Hn.out.symm, hb3'.trans (hb4.mono hb3'.size)⟩
end Go.Proofs.YtcbmdghnlbieeaaGreatDoor
