/-
  Walks of layer 36 (entry): isDate, target.
-/
import Derived.Test.YtcbmdghnlbieeaaGreatDoorPbD
import Derived.Test.YtcbmdghnlbieeaaGreatDoorDat
import Derived.Test.YtcbmdghnlbieeaaGreatDoorAtL
import Derived.Lib.SmallJoins
import Derived.Lib.AppendIntMem
namespace Go.Proofs.YtcbmdghnlbieeaaGreatDoor
open Go.RowKit

theorem Glob.tab {I : IH} {w : World} (h : Glob I) (hw : Ok I w) : Lib.TabIs Tryz.prog w "internal/strconv.uint64pow10" .u64 Lib.pow10Tab := by
  obtain ⟨e, f, hh⟩ := hw _ _ h.pow
  unfold Lib.TabIs World.var?
  have hg : Tryz.prog.globalNamed "internal/strconv.uint64pow10" = some 1 := by kernel_rfl
  simp [hg, hh]
theorem Glob.vsyn {I : IH} {w : World} (h : Glob I) (hw : Ok I w) : ∃ tp p, w.var? Tryz.prog "strconv.ErrSyntax" = some #[.iface tp p] := by
  obtain ⟨tp, p, h1⟩ := h.syn
  obtain ⟨e, f, hh⟩ := hw _ _ h1
  refine ⟨tp, p, ?_⟩
  unfold World.var?
  have hg : Tryz.prog.globalNamed "strconv.ErrSyntax" = some 2 := by kernel_rfl
  simp [hg, hh]
theorem Glob.vrng {I : IH} {w : World} (h : Glob I) (hw : Ok I w) : ∃ tp p, w.var? Tryz.prog "strconv.ErrRange" = some #[.iface tp p] := by
  obtain ⟨tp, p, h1⟩ := h.rng
  obtain ⟨e, f, hh⟩ := hw _ _ h1
  refine ⟨tp, p, ?_⟩
  unfold World.var?
  have hg : Tryz.prog.globalNamed "strconv.ErrRange" = some 3 := by kernel_rfl
  simp [hg, hh]

theorem lib_Itoa (I : IH) (hI : Glob I) (n : Int) (w : World) (hw : Ok I w) (h0 : -9223372036854775808 ≤ n) (h1 : n ≤ 9223372036854775807) :
    Calls Tryz.prog 89 #[.int .i64 n] w fun e w' => e = .returned (S (Lib.itoa n)) ∧ Below w.heap.size w w' :=
  (Tryz.strconv_Itoa n h0 h1 w (hI.tab hw)).mono fun e w' ⟨he, k, os, hq⟩ => ⟨he, by rw [hq]; exact Lib.below_grow _ _ (Nat.le_refl _) _ _⟩

/-- Atoi that fails. -/
def AtoiBad (w : World) (e : Ending) (w' : World) : Prop := ∃ n N, e = .returned (.tuple #[.int .i64 n, .iface 186 (.pointer (some ⟨N, 0, none⟩))]) ∧ Below w.heap.size w w'
theorem lib_Atoi_ok (s : Bytes) (hs : s.length ≤ 4294967280) (n : Int) (h : Lib.atoiAll s = .ok n) (w : World) :
    Calls Tryz.prog 142 #[S s] w fun e w' => e = .returned (.tuple #[.int .i64 n, .nilIface]) ∧ Below w.heap.size w w' := by
  have hsz : (⟨s.toArray⟩ : ByteArray).size = s.length := by simp [ByteArray.size]
  refine (Tryz.strconv_Atoi_ok ⟨s.toArray⟩ (by omega) n h w).mono fun e w' ⟨h1, h2⟩ => ⟨h1, ?_⟩
  rcases h2 with h2 | ⟨t, h2⟩
  · rw [h2]; exact Below.refl _ _
  · rw [h2]; exact Joins.below_bytesWorld _ _ _ _ (Nat.le_refl _)
theorem lib_Atoi_bad (I : IH) (hI : Glob I) (s : Bytes) (hs : s.length ≤ 4294967280) (h : ∀ n, Lib.atoiAll s ≠ .ok n) (w : World) (hw : Ok I w) :
    Calls Tryz.prog 142 #[S s] w (AtoiBad w) := by
  have hsz : (⟨s.toArray⟩ : ByteArray).size = s.length := by simp [ByteArray.size]
  by_cases hr : Lib.atoiAll s = .range
  · obtain ⟨tp, p, hv⟩ := hI.vrng hw
    exact (Tryz.strconv_Atoi_range_var ⟨s.toArray⟩ (by omega) hr tp p w hv).mono fun e w' ⟨N, h1, _, _, h4⟩ => ⟨_, N, h1, h4⟩
  · obtain ⟨tp, p, hv⟩ := hI.vsyn hw
    exact (Tryz.strconv_Atoi_syntax_var ⟨s.toArray⟩ (by omega) h hr tp p w hv).mono fun e w' ⟨N, h1, _, _, h4⟩ => ⟨0, N, h1, h4⟩

set_option maxRecDepth 100000 in
set_option maxHeartbeats 1000000 in
theorem en_isDate (I : IH) (hI : Glob I) (s : Bytes) (hs : s.length ≤ 4294967280) (w : World) (hw : Ok I w) :
    Calls Tryz.prog 111 #[S s] w fun e w' => e = .returned (.bool (dateOk s)) ∧ Below w.heap.size w w' := by
  have hdi := date_iff s
  by_cases hok : ∃ n, Lib.atoiAll s = .ok n
  case neg =>
    have Hn := Lib.hid (show dateOk s = false by
      cases h : dateOk s with
      | false => rfl
      | true => obtain ⟨n, h1, _⟩ := hdi.1 h; exact absurd ⟨n, h1⟩ hok)
    have Hat := Lib.hid (lib_Atoi_bad I hI s hs (fun n h => hok ⟨n, h⟩) w hw)
    clear hdi hok
    go_enter Tryz.func111, Tryz.ntmps111
    go_wp2_with fail
    refine Hat.out.mono ?_
    rintro e w1 ⟨n, N, rfl, hb1⟩
    go_wp2
    go_ret
    exact ⟨ret_b Hn.out.symm, hb1⟩
  obtain ⟨n, hn⟩ := hok
  have Hat := Lib.hid (lib_Atoi_ok s hs n hn w)
  have Hd := Lib.hid (show dateOk s = (decide (0 ≤ n) && decide (n ≤ 1000000000) && decide (Lib.itoa n = s)) by
    rw [Bool.eq_iff_iff, hdi]
    simp only [Bool.and_eq_true, decide_eq_true_eq]
    constructor
    · rintro ⟨m, h1, h2, h3, h4⟩
      rw [hn] at h1
      injection h1 with h1
      subst h1
      exact ⟨⟨h2, h3⟩, h4⟩
    · rintro ⟨⟨h2, h3⟩, h4⟩
      exact ⟨n, hn, h2, h3, h4⟩)
  clear hdi hn
  by_cases h0 : 0 ≤ n
  case neg =>
    have Hn := Lib.hid (show dateOk s = false by rw [Hd.out, decide_eq_false h0]; rfl)
    go_enter Tryz.func111, Tryz.ntmps111
    go_wp2_with fail
    refine Hat.out.mono ?_
    rintro e w1 ⟨rfl, hb1⟩
    go_wp2
    go_ret
    exact ⟨(by first | exact ret_b Hn.out.symm | (rw [Hn.out]; congr 1; simp; omega)), hb1⟩
  by_cases h1 : n ≤ 1000000000
  case neg =>
    have Hn := Lib.hid (show dateOk s = false by rw [Hd.out, decide_eq_false h1, Bool.and_false]; rfl)
    go_enter Tryz.func111, Tryz.ntmps111
    go_wp2_with fail
    refine Hat.out.mono ?_
    rintro e w1 ⟨rfl, hb1⟩
    go_wp2
    go_ret
    exact ⟨(by first | exact ret_b Hn.out.symm | (rw [Hn.out]; congr 1; simp; omega)), hb1⟩
  have Hn := Lib.hid (show dateOk s = (Lib.itoa n == s) by
    rw [Hd.out, decide_eq_true h0, decide_eq_true h1]
    by_cases h : Lib.itoa n = s <;> simp [h])
  have Hit := Lib.hid (fun w hw => lib_Itoa I hI n w hw (by omega) (by omega))
  obtain ⟨t, ht⟩ : ∃ t, Lib.itoa n = t := ⟨_, rfl⟩
  rw [ht] at Hit Hn
  clear ht
  go_enter Tryz.func111, Tryz.ntmps111
  go_wp2_with fail
  refine Hat.out.mono ?_
  rintro e w1 ⟨rfl, hb1⟩
  go_wp2_with fail
  refine (Hit.out _ (hw.below (Nat.le_refl _) hb1)).mono ?_
  rintro e w2 ⟨rfl, hb2⟩
  go_wp2
  go_ret
  exact ⟨ret_b Hn.out.symm, hb1.trans (hb2.mono hb1.size)⟩

set_option maxRecDepth 100000 in
set_option maxHeartbeats 400000 in
theorem en_target (I : IH) (hI : Glob I) (x : Ent) (hx : x.target.length ≤ 4294967280) (va vx : Value) (w : World) (hw : Ok I w) :
    Calls Tryz.prog 74 #[entV x va vx] w fun e w' => e = .returned (.bool (targetOk x)) ∧ Below w.heap.size w w' := by
  by_cases h3 : x.kind = 3
  · have f3 : ((x.kind : Int) == 3) = true := by simpa using h3
    by_cases h1 : x.target = []
    · have Ht := Lib.hid (show targetOk x = false by rw [targetOk, if_pos h3, h1]; rfl)
      obtain ⟨p1, p2, p3, p4⟩ := eq_emp h1
      clear h3 h1
      go_enter Tryz.func74, Tryz.ntmps74
      go_wp2
      go_ret
      exact ⟨ret_b Ht.out.symm, (Below.refl _ _).alloc (Nat.le_refl _) _⟩
    have hl1 : 1 ≤ x.target.length := List.length_pos_iff.2 h1
    have Ht := Lib.hid (show targetOk x = decide (x.target.length ≤ 200) by rw [targetOk, if_pos h3, decide_eq_true hl1]; rfl)
    obtain ⟨p1, p2, p3, p4⟩ := ne_emp h1
    clear h3 h1
    go_enter Tryz.func74, Tryz.ntmps74
    go_wp2
    go_ret
    exact ⟨ret_b (by rw [Ht.out, decide_eq_decide]; omega), (Below.refl _ _).alloc (Nat.le_refl _) _⟩
  have f3 : ((x.kind : Int) == 3) = false := by simpa using h3
  by_cases h5 : x.kind = 5
  · have f5 : ((x.kind : Int) == 5) = true := by simpa using h5
    have Ht := Lib.hid (show targetOk x = dateOk x.target by rw [targetOk, if_neg h3, if_pos h5])
    clear h3 h5
    go_enter Tryz.func74, Tryz.ntmps74
    go_wp2_with fail
    refine (en_isDate I hI x.target hx _ (hw.alloc _)).mono ?_
    rintro e w1 ⟨rfl, hb1⟩
    go_wp2
    go_ret
    exact ⟨ret_b Ht.out.symm, ((Below.refl _ _).alloc (Nat.le_refl _) _).trans (hb1.mono (by simp))⟩
  have f5 : ((x.kind : Int) == 5) = false := by simpa using h5
  have Ht := Lib.hid (show targetOk x = x.target.isEmpty by rw [targetOk, if_neg h3, if_neg h5])
  clear h3 h5
  go_enter Tryz.func74, Tryz.ntmps74
  go_wp2
  go_ret
  exact ⟨ret_b (by rw [Ht.out]), (Below.refl _ _).alloc (Nat.le_refl _) _⟩
end Go.Proofs.YtcbmdghnlbieeaaGreatDoor
