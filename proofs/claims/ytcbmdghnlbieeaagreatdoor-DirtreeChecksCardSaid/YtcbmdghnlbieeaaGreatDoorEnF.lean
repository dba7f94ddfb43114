/-
  Walks of the reference's layers 36 and 37: Equal, dir, Same.
-/
import Derived.Test.YtcbmdghnlbieeaaGreatDoorEnE
namespace Go.Proofs.YtcbmdghnlbieeaaGreatDoor
open Go.RowKit

theorem dirErr_get (t : List Ent) (p : Bytes) (hp : p ≠ []) : dirErr t p = if (getE t p).2 = false then 9 else if (getE t p).1.kind ≠ 2 then 10 else 0 := by
  unfold dirErr getE
  rw [if_neg hp]
  cases getT t p <;> simp

set_option maxRecDepth 100000 in
set_option maxHeartbeats 400000 in
theorem ref37_dir (I : IH) (v : Value) (t : List Ent) (hv : RdS tEnt I v t) (p : Bytes) (w : World) (hw : Ok I w) :
    Calls Tryz.prog 49 #[v, S p] w fun e w' => e = .returned (.int .i64 (dirErr t p)) ∧ Below w.heap.size w w' := by
  obtain ⟨ao, cap, rfl, hcap, hcm, _⟩ := id hv
  have Hv := Lib.hid hv; clear hv
  by_cases hp : p = []
  · obtain ⟨p1, p2, p3, p4⟩ := eq_emp hp
    have Hn := Lib.hid (show dirErr t p = 0 by rw [dirErr, if_pos hp])
    clear hp
    go_enter Tryz.func49, Tryz.ntmps49
    go_wp2
    go_ret
    exact ⟨ret_i Hn.out.symm, Below.refl _ _⟩
  · obtain ⟨p1, p2, p3, p4⟩ := ne_emp hp
    have Hn := Lib.hid (dirErr_get t p hp)
    have Hg := Lib.hid (ref37_Get I _ t Hv.out p w hw)
    clear hp
    generalize getE t p = g at Hn Hg
    obtain ⟨x, b⟩ := g
    go_enter Tryz.func49, Tryz.ntmps49
    go_wp2_with fail
    refine Hg.out.mono ?_
    rintro e w1 ⟨va, vx, rfl, h1, h2, hb1⟩
    obtain ⟨aa, ca, rfl, _, _, _⟩ := id h1
    obtain ⟨ax, cx, rfl, _, _, _⟩ := id h2
    clear h1 h2
    cases b
    · have Hn2 := Lib.hid (show dirErr t p = 9 by rw [Hn.out]; rfl)
      go_wp2
      go_ret
      exact ⟨ret_i Hn2.out.symm, hb1.alloc hb1.size _⟩
    · by_cases hk : x.kind = 2
      · have k1 : ((x.kind : Int) != 2) = false := by simpa using hk
        have Hn2 := Lib.hid (show dirErr t p = 0 by rw [Hn.out]; simp [hk])
        clear hk
        go_wp2
        go_ret
        exact ⟨ret_i Hn2.out.symm, hb1.alloc hb1.size _⟩
      · have k1 : ((x.kind : Int) != 2) = true := by simpa using hk
        have Hn2 := Lib.hid (show dirErr t p = 10 by rw [Hn.out]; simp [hk])
        clear hk
        go_wp2
        go_ret
        exact ⟨ret_i Hn2.out.symm, hb1.alloc hb1.size _⟩

theorem run_neq_xt (a b : Xt) (W : World) : (binOp .neq 69 (.agg #[.int .i64 a.s, .int .i64 a.o, .int .i64 a.n]) (.agg #[.int .i64 b.s, .int .i64 b.o, .int .i64 b.n])).run Tryz.prog W = .ok (.bool (!decide (a = b))) W := by
  rw [run_neq_of _ _ [(3, 0, false), (3, 1, false), (3, 2, false)] W (by kernel_rfl) (by kernel_rfl) (by kernel_rfl)]
  obtain ⟨a1, a2, a3⟩ := a
  obtain ⟨b1, b2, b3⟩ := b
  simp [go_sem]
  by_cases h1 : a1 = b1 <;> by_cases h2 : a2 = b2 <;> by_cases h3 : a3 = b3 <;> simp [h1, h2, h3]

set_option maxRecDepth 100000 in
set_option maxHeartbeats 1000000 in
theorem ref36_Equal (I : IH) (a b : Ent) (va vx vb vy : Value) (hva : RdS tAt I va a.attrs) (hvx : RdS tXt I vx a.exts) (hvb : RdS tAt I vb b.attrs) (hvy : RdS tXt I vy b.exts) (w : World) (hw : Ok I w) :
    Calls Tryz.prog 23 #[entV a va vx, entV b vb vy] w fun e w' => e = .returned (.bool (decide (a = b))) ∧ Below w.heap.size w w' := by
  have hl1 := hvx.len_le
  have hl2 := hvy.len_le
  obtain ⟨aa, ca, rfl, _, _, _⟩ := id hva
  obtain ⟨ax, cx, rfl, hcx, hcxm, _⟩ := id hvx
  obtain ⟨aa2, ca2, rfl, _, _, _⟩ := id hvb
  obtain ⟨ax2, cx2, rfl, hcy, hcym, _⟩ := id hvy
  have Hsm := Lib.hid (fun w hw => ref32_Same I _ _ a.attrs b.attrs hva hvb w hw)
  have Hvx := Lib.hid hvx
  have Hvy := Lib.hid hvy
  clear hva hvx hvb hvy
  by_cases h1 : a.kind = b.kind
  case neg =>
    have k1 : ((a.kind : Int) != b.kind) = true := by simpa using h1
    have Hn := Lib.hid (show decide (a = b) = false from decide_eq_false fun e => h1 (by rw [e]))
    clear h1
    go_enter Tryz.func23, Tryz.ntmps23
    go_wp2
    go_ret
    exact ⟨ret_b Hn.out.symm, ((Below.refl _ _).alloc (Nat.le_refl _) _).alloc (by simp) _⟩
  have k1 : ((a.kind : Int) != b.kind) = false := by simpa using h1
  by_cases h2 : a.path = b.path
  case neg =>
    have k2 : (a.path != b.path) = true := by simpa using h2
    have k2' : (a.path == b.path) = false := by simpa using h2
    have Hn := Lib.hid (show decide (a = b) = false from decide_eq_false fun e => h2 (by rw [e]))
    clear h2 h1
    go_enter Tryz.func23, Tryz.ntmps23
    go_wp2
    go_ret
    exact ⟨ret_b Hn.out.symm, ((Below.refl _ _).alloc (Nat.le_refl _) _).alloc (by simp) _⟩
  have k2 : (a.path != b.path) = false := by simpa using h2
  have k2' : (a.path == b.path) = true := by simpa using h2
  by_cases h3 : a.attrs = b.attrs
  case neg =>
    have Hn := Lib.hid (show decide (a = b) = false from decide_eq_false fun e => h3 (by rw [e]))
    rw [decide_eq_false h3] at Hsm
    clear h3 h2 h1
    go_enter Tryz.func23, Tryz.ntmps23
    go_wp2_with fail
    refine (Hsm.out _ ((hw.alloc _).alloc _)).mono ?_
    rintro e w1 ⟨rfl, hb1⟩
    have hb1' : Below w.heap.size w w1 := (((Below.refl _ _).alloc (Nat.le_refl _) _).alloc (by simp) _).trans (hb1.mono (by simp; omega))
    have hB := entB (n := w.heap.size + 1) (e := b) (by simp) hb1
    have hA := (EntB.past (entB (e := a) (t := 26) rfl (Below.refl _ _)) (.cells #[.int .i64 b.kind, S b.path, .slice aa2 b.attrs.length ca2, S b.target, .int .i64 b.size, S b.digest, .slice ax2 b.exts.length cx2] 26)).thru hb1
    obtain ⟨c0, c1, c2, c3, c4, c5, c6⟩ := hA
    obtain ⟨d0, d1, d2, d3, d4, d5, d6⟩ := hB
    clear hb1
    go_wp2
    go_ret
    exact ⟨ret_b Hn.out.symm, hb1'⟩
  rw [decide_eq_true h3] at Hsm
  by_cases h4 : a.target = b.target
  case neg =>
    have k4 : (a.target != b.target) = true := by simpa using h4
    have k4' : (a.target == b.target) = false := by simpa using h4
    have Hn := Lib.hid (show decide (a = b) = false from decide_eq_false fun e => h4 (by rw [e]))
    clear h4 h3 h2 h1
    go_enter Tryz.func23, Tryz.ntmps23
    go_wp2_with fail
    refine (Hsm.out _ ((hw.alloc _).alloc _)).mono ?_
    rintro e w1 ⟨rfl, hb1⟩
    have hb1' : Below w.heap.size w w1 := (((Below.refl _ _).alloc (Nat.le_refl _) _).alloc (by simp) _).trans (hb1.mono (by simp; omega))
    have hB := entB (n := w.heap.size + 1) (e := b) (by simp) hb1
    have hA := (EntB.past (entB (e := a) (t := 26) rfl (Below.refl _ _)) (.cells #[.int .i64 b.kind, S b.path, .slice aa2 b.attrs.length ca2, S b.target, .int .i64 b.size, S b.digest, .slice ax2 b.exts.length cx2] 26)).thru hb1
    obtain ⟨c0, c1, c2, c3, c4, c5, c6⟩ := hA
    obtain ⟨d0, d1, d2, d3, d4, d5, d6⟩ := hB
    clear hb1
    go_wp2
    go_ret
    exact ⟨ret_b Hn.out.symm, hb1'⟩
  have k4 : (a.target != b.target) = false := by simpa using h4
  have k4' : (a.target == b.target) = true := by simpa using h4
  by_cases h5 : a.size = b.size
  case neg =>
    have k5 : ((a.size : Int) != b.size) = true := by simpa using h5
    have Hn := Lib.hid (show decide (a = b) = false from decide_eq_false fun e => h5 (by rw [e]))
    clear h5 h4 h3 h2 h1
    go_enter Tryz.func23, Tryz.ntmps23
    go_wp2_with fail
    refine (Hsm.out _ ((hw.alloc _).alloc _)).mono ?_
    rintro e w1 ⟨rfl, hb1⟩
    have hb1' : Below w.heap.size w w1 := (((Below.refl _ _).alloc (Nat.le_refl _) _).alloc (by simp) _).trans (hb1.mono (by simp; omega))
    have hB := entB (n := w.heap.size + 1) (e := b) (by simp) hb1
    have hA := (EntB.past (entB (e := a) (t := 26) rfl (Below.refl _ _)) (.cells #[.int .i64 b.kind, S b.path, .slice aa2 b.attrs.length ca2, S b.target, .int .i64 b.size, S b.digest, .slice ax2 b.exts.length cx2] 26)).thru hb1
    obtain ⟨c0, c1, c2, c3, c4, c5, c6⟩ := hA
    obtain ⟨d0, d1, d2, d3, d4, d5, d6⟩ := hB
    clear hb1
    go_wp2
    go_ret
    exact ⟨ret_b Hn.out.symm, hb1'⟩
  have k5 : ((a.size : Int) != b.size) = false := by simpa using h5
  by_cases h6 : a.digest = b.digest
  case neg =>
    have k6 : (a.digest != b.digest) = true := by simpa using h6
    have k6' : (a.digest == b.digest) = false := by simpa using h6
    have Hn := Lib.hid (show decide (a = b) = false from decide_eq_false fun e => h6 (by rw [e]))
    clear h6 h5 h4 h3 h2 h1
    go_enter Tryz.func23, Tryz.ntmps23
    go_wp2_with fail
    refine (Hsm.out _ ((hw.alloc _).alloc _)).mono ?_
    rintro e w1 ⟨rfl, hb1⟩
    have hb1' : Below w.heap.size w w1 := (((Below.refl _ _).alloc (Nat.le_refl _) _).alloc (by simp) _).trans (hb1.mono (by simp; omega))
    have hB := entB (n := w.heap.size + 1) (e := b) (by simp) hb1
    have hA := (EntB.past (entB (e := a) (t := 26) rfl (Below.refl _ _)) (.cells #[.int .i64 b.kind, S b.path, .slice aa2 b.attrs.length ca2, S b.target, .int .i64 b.size, S b.digest, .slice ax2 b.exts.length cx2] 26)).thru hb1
    obtain ⟨c0, c1, c2, c3, c4, c5, c6⟩ := hA
    obtain ⟨d0, d1, d2, d3, d4, d5, d6⟩ := hB
    clear hb1
    go_wp2
    go_ret
    exact ⟨ret_b Hn.out.symm, hb1'⟩
  have k6 : (a.digest != b.digest) = false := by simpa using h6
  have k6' : (a.digest == b.digest) = true := by simpa using h6
  have Hab := Lib.hid (show decide (a = b) = decide (a.exts = b.exts) by
    rw [decide_eq_decide]
    constructor
    · intro e; rw [e]
    · intro e
      cases a
      cases b
      simp_all)
  clear h6 h5 h4 h3 h2 h1
  by_cases hll : a.exts.length = b.exts.length
  case neg =>
    have k7 : ((a.exts.length : Int) != (b.exts.length : Int)) = true := by rw [bne_iff_ne]; omega
    have Hn := Lib.hid (show decide (a = b) = false by rw [Hab.out, decide_eq_false]; intro e; exact hll (by rw [e]))
    clear hll
    go_enter Tryz.func23, Tryz.ntmps23
    go_wp2_with fail
    refine (Hsm.out _ ((hw.alloc _).alloc _)).mono ?_
    rintro e w1 ⟨rfl, hb1⟩
    have hb1' : Below w.heap.size w w1 := (((Below.refl _ _).alloc (Nat.le_refl _) _).alloc (by simp) _).trans (hb1.mono (by simp; omega))
    have hB := entB (n := w.heap.size + 1) (e := b) (by simp) hb1
    have hA := (EntB.past (entB (e := a) (t := 26) rfl (Below.refl _ _)) (.cells #[.int .i64 b.kind, S b.path, .slice aa2 b.attrs.length ca2, S b.target, .int .i64 b.size, S b.digest, .slice ax2 b.exts.length cx2] 26)).thru hb1
    obtain ⟨c0, c1, c2, c3, c4, c5, c6⟩ := hA
    obtain ⟨d0, d1, d2, d3, d4, d5, d6⟩ := hB
    clear hb1
    go_wp2
    go_ret
    exact ⟨ret_b Hn.out.symm, hb1'⟩
  have k7 : ((a.exts.length : Int) != (b.exts.length : Int)) = false := by rw [hll]; simp
  have Hll := Lib.hid hll
  clear hll
  go_enter Tryz.func23, Tryz.ntmps23
  go_wp2_with fail
  refine (Hsm.out _ ((hw.alloc _).alloc _)).mono ?_
  rintro e w1 ⟨rfl, hb1⟩
  have hb1' : Below w.heap.size w w1 := (((Below.refl _ _).alloc (Nat.le_refl _) _).alloc (by simp) _).trans (hb1.mono (by simp; omega))
  have hB := entB (n := w.heap.size + 1) (e := b) (by simp) hb1
  have hA := (EntB.past (entB (e := a) (t := 26) rfl (Below.refl _ _)) (.cells #[.int .i64 b.kind, S b.path, .slice aa2 b.attrs.length ca2, S b.target, .int .i64 b.size, S b.digest, .slice ax2 b.exts.length cx2] 26)).thru hb1
  obtain ⟨c0, c1, c2, c3, c4, c5, c6⟩ := hA
  obtain ⟨d0, d1, d2, d3, d4, d5, d6⟩ := hB
  clear hb1
  have HA := Lib.hid (⟨c0, c1, c2, c3, c4, c5, c6⟩ : EntB w1 w.heap.size a _ _)
  have HB := Lib.hid (⟨d0, d1, d2, d3, d4, d5, d6⟩ : EntB w1 _ b _ _)
  have hok1 : Ok I w1 := hw.below (Nat.le_refl _) hb1'
  go_wp2_with fail
  clear c0 c1 c2 c3 c4 c5 c6 d0 d1 d2 d3 d4 d5 d6
  go_loopw [5] (fun s5 wr => ∃ k : Nat, k ≤ a.exts.length ∧ s5 = .int .i64 k ∧ a.exts.take k = b.exts.take k ∧ Below w1.heap.size w1 wr) (fun i _ => a.exts.length - (intOf i).toNat)
  case atStart => exact ⟨0, Nat.zero_le _, rfl, rfl, Below.refl _ _⟩
  case round =>
    obtain ⟨k, hk, rfl, hr, hb⟩ := hrel
    have Hr := Lib.hid hr; clear hr
    have hwr : Ok I wr := hok1.below (Nat.le_refl _) hb
    have c6 := (HA.out.thru hb).c6
    have d6 := (HB.out.thru hb).c6
    by_cases hlt : k < a.exts.length
    · have hlt2 : k < b.exts.length := by rw [← Hll.out]; exact hlt
      obtain ⟨p, bb, off, cap', hp, hvv, p0, p1, p2⟩ := xtAt Hvx.out hwr k hlt
      cases hvv
      obtain ⟨q, b', off', cap'', hq, hvv, q0, q1, q2⟩ := xtAt Hvy.out hwr k hlt2
      cases hvv
      have Hp := Lib.hid hp
      have Hq := Lib.hid hq
      have x0 := cell_regrown p0
      have x1 := cell_regrown p1
      have x2 := cell_regrown p2
      have y0 := cell_regrown q0
      have y1 := cell_regrown q1
      have y2 := cell_regrown q2
      have e6 := cell_regrown c6
      have f6 := cell_regrown d6
      clear hp hq
      have hneq := run_neq_xt p q
      by_cases hpq : p = q
      · rw [decide_eq_true hpq] at hneq
        have Hn := Lib.hid (show a.exts.take (k + 1) = b.exts.take (k + 1) by rw [List.take_succ_eq_append_getElem hlt, List.take_succ_eq_append_getElem hlt2, Hr.out, Hp.out, Hq.out, hpq])
        clear hpq
        go_wp2_with fail
        refine wp_region_quiet_below (by kernel_rfl) (by kernel_rfl) ?_
        repeat (go_big_quiet_step ((fail)))
        refine wpQuiet_nil ?_
        intro w2 hwq
        have hb2 : Below (wr).heap.size (wr) w2 := by
          obtain ⟨pq, rfl⟩ := hwq
          exact below_regrown _ _ _
        clear hwq
        go_wp2
        go_roundw
        case rel => exact ⟨k + 1, by omega, by go_num, Hn.out, hb.trans (hb2.mono hb.size)⟩
        case measure => simp [intOf]; omega
      · rw [decide_eq_false hpq] at hneq
        have Hn := Lib.hid (show decide (a = b) = false by
          rw [Hab.out, decide_eq_false]
          intro h
          apply hpq
          rw [← Hp.out, ← Hq.out]
          simp [h])
        clear hpq
        go_wp2_with fail
        refine wp_region_quiet_below (by kernel_rfl) (by kernel_rfl) ?_
        repeat (go_big_quiet_step ((fail)))
        refine wpQuiet_nil ?_
        intro w2 hwq
        have hb2 : Below (wr).heap.size (wr) w2 := by
          obtain ⟨pq, rfl⟩ := hwq
          exact below_regrown _ _ _
        clear hwq
        go_wp2
        go_ret
        exact ⟨ret_b Hn.out.symm, hb1'.trans ((hb.trans (hb2.mono hb.size)).mono hb1'.size)⟩
    · have Hn := Lib.hid (show decide (a = b) = true by
        have := Hr.out
        rw [List.take_of_length_le (by omega), List.take_of_length_le (by rw [← Hll.out]; omega)] at this
        rw [Hab.out, decide_eq_true this])
      go_wp2
      go_ret
      exact ⟨ret_b Hn.out.symm, hb1'.trans (hb.mono hb1'.size)⟩
end Go.Proofs.YtcbmdghnlbieeaaGreatDoor
