/-
  Walks of layer 37: the meaning of entries: slices.Equal at attributes, dirtree.same, steleref37.Meaning; the law's same.
  Walks of layer 37: steleref37.Diff.
  Nothing that runs takes back a draw. Over any program.
  Walks of layer 37: slices.SortFunc at paths by pathname.Compare.
  Walks of layer 37: dirtree.Diff.
-/
import Derived.Test.YtcbmdghnlbieeaaGreatDoorZE
import Derived.Test.YtcbmdghnlbieeaaGreatDoorZJ
import Derived.Test.YtcbmdghnlbieeaaGreatDoorZI
import Derived.Calls
import Derived.Below
import Derived.Sort.Grow
import Derived.Deep.Draws
import Derived.Test.YtcbmdghnlbieeaaGreatDoorZF
import Derived.Test.YtcbmdghnlbieeaaGreatDoorZG
namespace Go.Proofs.YtcbmdghnlbieeaaGreatDoor
open Go.RowKit

set_option maxRecDepth 100000 in
set_option maxHeartbeats 1000000 in
theorem lib_EqualA (I : IH) (v1 v2 : Value) (l m : List At) (hv1 : RdS tAt I v1 l) (hv2 : RdS tAt I v2 m) (w : World) (hw : Ok I w) :
    Calls Tryz.prog 106 #[v1, v2] w fun e w' => e = .returned (.bool (decide (l = m))) ∧ Below w.heap.size w w' := by
  have hl1 := hv1.len_le
  have hl2 := hv2.len_le
  obtain ⟨ao, cap, rfl, hcap, hcm, _⟩ := id hv1
  obtain ⟨ao2, cap2, rfl, hcap2, hcm2, _⟩ := id hv2
  have Hv1 := Lib.hid hv1
  have Hv2 := Lib.hid hv2
  clear hv1 hv2
  by_cases hll : l.length = m.length
  case neg =>
    have k7 : ((l.length : Int) != (m.length : Int)) = true := by rw [bne_iff_ne]; omega
    have Hn := Lib.hid (show decide (l = m) = false by rw [decide_eq_false]; intro e; exact hll (by rw [e]))
    clear hll
    go_enter Tryz.func106, Tryz.ntmps106
    go_wp2
    go_ret
    exact ⟨ret_b Hn.out.symm, Below.refl _ _⟩
  have k7 : ((l.length : Int) != (m.length : Int)) = false := by rw [hll]; simp
  have Hll := Lib.hid hll
  clear hll
  go_enter Tryz.func106, Tryz.ntmps106
  go_wp2_with fail
  go_loopw [13] (fun s13 wr => ∃ k : Nat, k ≤ l.length ∧ s13 = .int .i64 k ∧ l.take k = m.take k ∧ Below w.heap.size w wr) (fun i _ => l.length - (intOf i).toNat)
  case atStart => exact ⟨0, Nat.zero_le _, rfl, rfl, Below.refl _ _⟩
  case round =>
    obtain ⟨k, hk, rfl, hr, hb⟩ := hrel
    have Hr := Lib.hid hr; clear hr
    have hwr : Ok I wr := hw.below (Nat.le_refl _) hb
    by_cases hlt : k < l.length
    · have hlt2 : k < m.length := by rw [← Hll.out]; exact hlt
      obtain ⟨p, bb, off, cap', hp, hvv, p0, p1⟩ := atAt Hv1.out hwr k hlt
      cases hvv
      obtain ⟨q, b', off', cap'', hq, hvv, q0, q1⟩ := atAt Hv2.out hwr k hlt2
      cases hvv
      have Hp := Lib.hid hp
      have Hq := Lib.hid hq
      have x0 := cell_regrown p0
      have x1 := cell_regrown p1
      have y0 := cell_regrown q0
      have y1 := cell_regrown q1
      clear hp hq
      have hneq := run_neq_at p q
      by_cases hpq : p = q
      · rw [decide_eq_true hpq] at hneq
        have Hn := Lib.hid (show l.take (k + 1) = m.take (k + 1) by rw [List.take_succ_eq_append_getElem hlt, List.take_succ_eq_append_getElem hlt2, Hr.out, Hp.out, Hq.out, hpq])
        clear hpq
        go_wp2_with fail
        refine wp_region_quiet_below (by kernel_rfl) (by kernel_rfl) ?_
        repeat (go_big_quiet_step ((fail)))
        refine wpQuiet_nil ?_
        intro w2 hwq
        have hb2 : Below (wr).heap.size (wr) w2 := by
          obtain ⟨pq, rfl⟩ := hwq
          exact below_regrown _ _ _
        clear hwq
        go_wp2
        go_roundw
        case rel => exact ⟨k + 1, by omega, by go_num, Hn.out, hb.trans (hb2.mono hb.size)⟩
        case measure => simp [intOf]; omega
      · rw [decide_eq_false hpq] at hneq
        have Hn := Lib.hid (show decide (l = m) = false by
          rw [decide_eq_false]
          intro h
          apply hpq
          rw [← Hp.out, ← Hq.out]
          simp [h])
        clear hpq
        go_wp2_with fail
        refine wp_region_quiet_below (by kernel_rfl) (by kernel_rfl) ?_
        repeat (go_big_quiet_step ((fail)))
        refine wpQuiet_nil ?_
        intro w2 hwq
        have hb2 : Below (wr).heap.size (wr) w2 := by
          obtain ⟨pq, rfl⟩ := hwq
          exact below_regrown _ _ _
        clear hwq
        go_wp2
        go_ret
        exact ⟨ret_b Hn.out.symm, hb.trans (hb2.mono hb.size)⟩
    · have Hn := Lib.hid (show decide (l = m) = true by
        have := Hr.out
        rw [List.take_of_length_le (by omega), List.take_of_length_le (by rw [← Hll.out]; omega)] at this
        rw [decide_eq_true this])
      go_wp2
      go_ret
      exact ⟨ret_b Hn.out.symm, hb⟩

theorem mean_kind {a b : Ent} (h : a.kind ≠ b.kind) : meaning a b = false := by rw [meaning, decide_eq_false h]; rfl
theorem mean_attrs {a b : Ent} (h : a.attrs ≠ b.attrs) : meaning a b = false := by rw [meaning, decide_eq_false h]; simp
theorem mean_target {a b : Ent} (h : a.target ≠ b.target) : meaning a b = false := by rw [meaning, decide_eq_false h]; simp
theorem mean_size {a b : Ent} (h : a.size ≠ b.size) : meaning a b = false := by rw [meaning, decide_eq_false h]; simp
theorem mean_digest {a b : Ent} (h : a.digest ≠ b.digest) : meaning a b = false := by rw [meaning, decide_eq_false h]; simp
theorem mean_yes {a b : Ent} (h1 : a.kind = b.kind) (h2 : a.attrs = b.attrs) (h3 : a.target = b.target) (h4 : a.size = b.size) (h5 : a.digest = b.digest) : meaning a b = true := by
  rw [meaning, decide_eq_true h1, decide_eq_true h2, decide_eq_true h3, decide_eq_true h4, decide_eq_true h5]; rfl

set_option maxRecDepth 100000 in
set_option maxHeartbeats 1000000 in
theorem dt_same (I : IH) (a b : Ent) (va vx vb vy : Value) (hva : RdS tAt I va a.attrs) (hvx : RdS tXt I vx a.exts) (hvb : RdS tAt I vb b.attrs) (hvy : RdS tXt I vy b.exts) (w : World) (hw : Ok I w) :
    Calls Tryz.prog 69 #[entV a va vx, entV b vb vy] w fun e w' => e = .returned (.bool (meaning a b)) ∧ Below w.heap.size w w' := by
  obtain ⟨aa, ca, rfl, _, _, _⟩ := id hva
  obtain ⟨ax, cx, rfl, hcx, hcxm, _⟩ := id hvx
  obtain ⟨aa2, ca2, rfl, _, _, _⟩ := id hvb
  obtain ⟨ax2, cx2, rfl, hcy, hcym, _⟩ := id hvy
  have Hsm := Lib.hid (fun w hw => lib_EqualA I _ _ a.attrs b.attrs hva hvb w hw)
  clear hva hvx hvb hvy
  by_cases h1 : a.kind = b.kind
  case neg =>
    have k1 : ((a.kind : Int) == b.kind) = false := by simpa using h1
    have Hn := Lib.hid (mean_kind h1)
    clear h1
    go_enter Tryz.func69, Tryz.ntmps69
    go_wp2
    go_ret
    exact ⟨ret_b Hn.out.symm, ((Below.refl _ _).alloc (Nat.le_refl _) _).alloc (by simp) _⟩
  have k1 : ((a.kind : Int) == b.kind) = true := by simpa using h1
  by_cases h2 : a.attrs = b.attrs
  case neg =>
    have Hn := Lib.hid (mean_attrs h2)
    rw [decide_eq_false h2] at Hsm
    clear h2 h1
    go_enter Tryz.func69, Tryz.ntmps69
    go_wp2_with fail
    refine (Hsm.out _ ((hw.alloc _).alloc _)).mono ?_
    rintro e w1 ⟨rfl, hb1⟩
    have hb1' : Below w.heap.size w w1 := (((Below.refl _ _).alloc (Nat.le_refl _) _).alloc (by simp) _).trans (hb1.mono (by simp; omega))
    have hB := entB (n := w.heap.size + 1) (e := b) (by simp) hb1
    have hA := (EntB.past (entB (e := a) (t := 26) rfl (Below.refl _ _)) (.cells #[.int .i64 b.kind, S b.path, .slice aa2 b.attrs.length ca2, S b.target, .int .i64 b.size, S b.digest, .slice ax2 b.exts.length cx2] 26)).thru hb1
    obtain ⟨c0, c1, c2, c3, c4, c5, c6⟩ := hA
    obtain ⟨d0, d1, d2, d3, d4, d5, d6⟩ := hB
    clear hb1
    go_wp2
    go_ret
    exact ⟨ret_b Hn.out.symm, hb1'⟩
  rw [decide_eq_true h2] at Hsm
  by_cases h3 : a.target = b.target
  case neg =>
    have k3 : (a.target != b.target) = true := by simpa using h3
    have k3' : (a.target == b.target) = false := by simpa using h3
    have Hn := Lib.hid (mean_target h3)
    clear h3 h2 h1
    go_enter Tryz.func69, Tryz.ntmps69
    go_wp2_with fail
    refine (Hsm.out _ ((hw.alloc _).alloc _)).mono ?_
    rintro e w1 ⟨rfl, hb1⟩
    have hb1' : Below w.heap.size w w1 := (((Below.refl _ _).alloc (Nat.le_refl _) _).alloc (by simp) _).trans (hb1.mono (by simp; omega))
    have hB := entB (n := w.heap.size + 1) (e := b) (by simp) hb1
    have hA := (EntB.past (entB (e := a) (t := 26) rfl (Below.refl _ _)) (.cells #[.int .i64 b.kind, S b.path, .slice aa2 b.attrs.length ca2, S b.target, .int .i64 b.size, S b.digest, .slice ax2 b.exts.length cx2] 26)).thru hb1
    obtain ⟨c0, c1, c2, c3, c4, c5, c6⟩ := hA
    obtain ⟨d0, d1, d2, d3, d4, d5, d6⟩ := hB
    clear hb1
    go_wp2
    go_ret
    exact ⟨ret_b Hn.out.symm, hb1'⟩
  have k3 : (a.target != b.target) = false := by simpa using h3
  have k3' : (a.target == b.target) = true := by simpa using h3
  by_cases h4 : a.size = b.size
  case neg =>
    have k4 : ((a.size : Int) == b.size) = false := by simpa using h4
    have Hn := Lib.hid (mean_size h4)
    clear h4 h3 h2 h1
    go_enter Tryz.func69, Tryz.ntmps69
    go_wp2_with fail
    refine (Hsm.out _ ((hw.alloc _).alloc _)).mono ?_
    rintro e w1 ⟨rfl, hb1⟩
    have hb1' : Below w.heap.size w w1 := (((Below.refl _ _).alloc (Nat.le_refl _) _).alloc (by simp) _).trans (hb1.mono (by simp; omega))
    have hB := entB (n := w.heap.size + 1) (e := b) (by simp) hb1
    have hA := (EntB.past (entB (e := a) (t := 26) rfl (Below.refl _ _)) (.cells #[.int .i64 b.kind, S b.path, .slice aa2 b.attrs.length ca2, S b.target, .int .i64 b.size, S b.digest, .slice ax2 b.exts.length cx2] 26)).thru hb1
    obtain ⟨c0, c1, c2, c3, c4, c5, c6⟩ := hA
    obtain ⟨d0, d1, d2, d3, d4, d5, d6⟩ := hB
    clear hb1
    go_wp2
    go_ret
    exact ⟨ret_b Hn.out.symm, hb1'⟩
  have k4 : ((a.size : Int) == b.size) = true := by simpa using h4
  by_cases h5 : a.digest = b.digest
  case neg =>
    have k5 : (a.digest != b.digest) = true := by simpa using h5
    have k5' : (a.digest == b.digest) = false := by simpa using h5
    have Hn := Lib.hid (mean_digest h5)
    clear h5 h4 h3 h2 h1
    go_enter Tryz.func69, Tryz.ntmps69
    go_wp2_with fail
    refine (Hsm.out _ ((hw.alloc _).alloc _)).mono ?_
    rintro e w1 ⟨rfl, hb1⟩
    have hb1' : Below w.heap.size w w1 := (((Below.refl _ _).alloc (Nat.le_refl _) _).alloc (by simp) _).trans (hb1.mono (by simp; omega))
    have hB := entB (n := w.heap.size + 1) (e := b) (by simp) hb1
    have hA := (EntB.past (entB (e := a) (t := 26) rfl (Below.refl _ _)) (.cells #[.int .i64 b.kind, S b.path, .slice aa2 b.attrs.length ca2, S b.target, .int .i64 b.size, S b.digest, .slice ax2 b.exts.length cx2] 26)).thru hb1
    obtain ⟨c0, c1, c2, c3, c4, c5, c6⟩ := hA
    obtain ⟨d0, d1, d2, d3, d4, d5, d6⟩ := hB
    clear hb1
    go_wp2
    go_ret
    exact ⟨ret_b Hn.out.symm, hb1'⟩
  have k5 : (a.digest != b.digest) = false := by simpa using h5
  have k5' : (a.digest == b.digest) = true := by simpa using h5
  have Hn := Lib.hid (mean_yes h1 h2 h3 h4 h5)
  clear h5 h4 h3 h2 h1
  go_enter Tryz.func69, Tryz.ntmps69
  go_wp2_with fail
  refine (Hsm.out _ ((hw.alloc _).alloc _)).mono ?_
  rintro e w1 ⟨rfl, hb1⟩
  have hb1' : Below w.heap.size w w1 := (((Below.refl _ _).alloc (Nat.le_refl _) _).alloc (by simp) _).trans (hb1.mono (by simp; omega))
  have hB := entB (n := w.heap.size + 1) (e := b) (by simp) hb1
  have hA := (EntB.past (entB (e := a) (t := 26) rfl (Below.refl _ _)) (.cells #[.int .i64 b.kind, S b.path, .slice aa2 b.attrs.length ca2, S b.target, .int .i64 b.size, S b.digest, .slice ax2 b.exts.length cx2] 26)).thru hb1
  obtain ⟨c0, c1, c2, c3, c4, c5, c6⟩ := hA
  obtain ⟨d0, d1, d2, d3, d4, d5, d6⟩ := hB
  clear hb1
  go_wp2
  go_ret
  exact ⟨ret_b Hn.out.symm, hb1'⟩
set_option maxRecDepth 100000 in
set_option maxHeartbeats 1000000 in
theorem ref37_Meaning (I : IH) (a b : Ent) (va vx vb vy : Value) (hva : RdS tAt I va a.attrs) (hvx : RdS tXt I vx a.exts) (hvb : RdS tAt I vb b.attrs) (hvy : RdS tXt I vy b.exts) (w : World) (hw : Ok I w) :
    Calls Tryz.prog 71 #[entV a va vx, entV b vb vy] w fun e w' => e = .returned (.bool (meaning a b)) ∧ Below w.heap.size w w' := by
  obtain ⟨aa, ca, rfl, _, _, _⟩ := id hva
  obtain ⟨ax, cx, rfl, hcx, hcxm, _⟩ := id hvx
  obtain ⟨aa2, ca2, rfl, _, _, _⟩ := id hvb
  obtain ⟨ax2, cx2, rfl, hcy, hcym, _⟩ := id hvy
  have Hsm := Lib.hid (fun w hw => ref32_Same I _ _ a.attrs b.attrs hva hvb w hw)
  clear hva hvx hvb hvy
  by_cases h1 : a.kind = b.kind
  case neg =>
    have k1 : ((a.kind : Int) == b.kind) = false := by simpa using h1
    have Hn := Lib.hid (mean_kind h1)
    clear h1
    go_enter Tryz.func71, Tryz.ntmps71
    go_wp2
    go_ret
    exact ⟨ret_b Hn.out.symm, ((Below.refl _ _).alloc (Nat.le_refl _) _).alloc (by simp) _⟩
  have k1 : ((a.kind : Int) == b.kind) = true := by simpa using h1
  by_cases h2 : a.attrs = b.attrs
  case neg =>
    have Hn := Lib.hid (mean_attrs h2)
    rw [decide_eq_false h2] at Hsm
    clear h2 h1
    go_enter Tryz.func71, Tryz.ntmps71
    go_wp2_with fail
    refine (Hsm.out _ ((hw.alloc _).alloc _)).mono ?_
    rintro e w1 ⟨rfl, hb1⟩
    have hb1' : Below w.heap.size w w1 := (((Below.refl _ _).alloc (Nat.le_refl _) _).alloc (by simp) _).trans (hb1.mono (by simp; omega))
    have hB := entB (n := w.heap.size + 1) (e := b) (by simp) hb1
    have hA := (EntB.past (entB (e := a) (t := 26) rfl (Below.refl _ _)) (.cells #[.int .i64 b.kind, S b.path, .slice aa2 b.attrs.length ca2, S b.target, .int .i64 b.size, S b.digest, .slice ax2 b.exts.length cx2] 26)).thru hb1
    obtain ⟨c0, c1, c2, c3, c4, c5, c6⟩ := hA
    obtain ⟨d0, d1, d2, d3, d4, d5, d6⟩ := hB
    clear hb1
    go_wp2
    go_ret
    exact ⟨ret_b Hn.out.symm, hb1'⟩
  rw [decide_eq_true h2] at Hsm
  by_cases h3 : a.target = b.target
  case neg =>
    have k3 : (a.target != b.target) = true := by simpa using h3
    have k3' : (a.target == b.target) = false := by simpa using h3
    have Hn := Lib.hid (mean_target h3)
    clear h3 h2 h1
    go_enter Tryz.func71, Tryz.ntmps71
    go_wp2_with fail
    refine (Hsm.out _ ((hw.alloc _).alloc _)).mono ?_
    rintro e w1 ⟨rfl, hb1⟩
    have hb1' : Below w.heap.size w w1 := (((Below.refl _ _).alloc (Nat.le_refl _) _).alloc (by simp) _).trans (hb1.mono (by simp; omega))
    have hB := entB (n := w.heap.size + 1) (e := b) (by simp) hb1
    have hA := (EntB.past (entB (e := a) (t := 26) rfl (Below.refl _ _)) (.cells #[.int .i64 b.kind, S b.path, .slice aa2 b.attrs.length ca2, S b.target, .int .i64 b.size, S b.digest, .slice ax2 b.exts.length cx2] 26)).thru hb1
    obtain ⟨c0, c1, c2, c3, c4, c5, c6⟩ := hA
    obtain ⟨d0, d1, d2, d3, d4, d5, d6⟩ := hB
    clear hb1
    go_wp2
    go_ret
    exact ⟨ret_b Hn.out.symm, hb1'⟩
  have k3 : (a.target != b.target) = false := by simpa using h3
  have k3' : (a.target == b.target) = true := by simpa using h3
  by_cases h4 : a.size = b.size
  case neg =>
    have k4 : ((a.size : Int) == b.size) = false := by simpa using h4
    have Hn := Lib.hid (mean_size h4)
    clear h4 h3 h2 h1
    go_enter Tryz.func71, Tryz.ntmps71
    go_wp2_with fail
    refine (Hsm.out _ ((hw.alloc _).alloc _)).mono ?_
    rintro e w1 ⟨rfl, hb1⟩
    have hb1' : Below w.heap.size w w1 := (((Below.refl _ _).alloc (Nat.le_refl _) _).alloc (by simp) _).trans (hb1.mono (by simp; omega))
    have hB := entB (n := w.heap.size + 1) (e := b) (by simp) hb1
    have hA := (EntB.past (entB (e := a) (t := 26) rfl (Below.refl _ _)) (.cells #[.int .i64 b.kind, S b.path, .slice aa2 b.attrs.length ca2, S b.target, .int .i64 b.size, S b.digest, .slice ax2 b.exts.length cx2] 26)).thru hb1
    obtain ⟨c0, c1, c2, c3, c4, c5, c6⟩ := hA
    obtain ⟨d0, d1, d2, d3, d4, d5, d6⟩ := hB
    clear hb1
    go_wp2
    go_ret
    exact ⟨ret_b Hn.out.symm, hb1'⟩
  have k4 : ((a.size : Int) == b.size) = true := by simpa using h4
  by_cases h5 : a.digest = b.digest
  case neg =>
    have k5 : (a.digest != b.digest) = true := by simpa using h5
    have k5' : (a.digest == b.digest) = false := by simpa using h5
    have Hn := Lib.hid (mean_digest h5)
    clear h5 h4 h3 h2 h1
    go_enter Tryz.func71, Tryz.ntmps71
    go_wp2_with fail
    refine (Hsm.out _ ((hw.alloc _).alloc _)).mono ?_
    rintro e w1 ⟨rfl, hb1⟩
    have hb1' : Below w.heap.size w w1 := (((Below.refl _ _).alloc (Nat.le_refl _) _).alloc (by simp) _).trans (hb1.mono (by simp; omega))
    have hB := entB (n := w.heap.size + 1) (e := b) (by simp) hb1
    have hA := (EntB.past (entB (e := a) (t := 26) rfl (Below.refl _ _)) (.cells #[.int .i64 b.kind, S b.path, .slice aa2 b.attrs.length ca2, S b.target, .int .i64 b.size, S b.digest, .slice ax2 b.exts.length cx2] 26)).thru hb1
    obtain ⟨c0, c1, c2, c3, c4, c5, c6⟩ := hA
    obtain ⟨d0, d1, d2, d3, d4, d5, d6⟩ := hB
    clear hb1
    go_wp2
    go_ret
    exact ⟨ret_b Hn.out.symm, hb1'⟩
  have k5 : (a.digest != b.digest) = false := by simpa using h5
  have k5' : (a.digest == b.digest) = true := by simpa using h5
  have Hn := Lib.hid (mean_yes h1 h2 h3 h4 h5)
  clear h5 h4 h3 h2 h1
  go_enter Tryz.func71, Tryz.ntmps71
  go_wp2_with fail
  refine (Hsm.out _ ((hw.alloc _).alloc _)).mono ?_
  rintro e w1 ⟨rfl, hb1⟩
  have hb1' : Below w.heap.size w w1 := (((Below.refl _ _).alloc (Nat.le_refl _) _).alloc (by simp) _).trans (hb1.mono (by simp; omega))
  have hB := entB (n := w.heap.size + 1) (e := b) (by simp) hb1
  have hA := (EntB.past (entB (e := a) (t := 26) rfl (Below.refl _ _)) (.cells #[.int .i64 b.kind, S b.path, .slice aa2 b.attrs.length ca2, S b.target, .int .i64 b.size, S b.digest, .slice ax2 b.exts.length cx2] 26)).thru hb1
  obtain ⟨c0, c1, c2, c3, c4, c5, c6⟩ := hA
  obtain ⟨d0, d1, d2, d3, d4, d5, d6⟩ := hB
  clear hb1
  go_wp2
  go_ret
  exact ⟨ret_b Hn.out.symm, hb1'⟩

set_option maxRecDepth 100000 in
set_option maxHeartbeats 1000000 in
theorem law_same37 (I : IH) (v1 v2 : Value) (l : List Bytes) (hv1 : RdS tStr I v1 l) (hv2 : RdS tStr I v2 l) (w : World) (hw : Ok I w) :
    Calls Tryz.prog 30 #[v1, v2] w fun e w' => e = .returned (.bool true) ∧ Below w.heap.size w w' := by
  have hl1 := hv1.len_le
  obtain ⟨ao, cap, rfl, hcap, hcm, _⟩ := id hv1
  obtain ⟨ao2, cap2, rfl, hcap2, hcm2, _⟩ := id hv2
  have Hv1 := Lib.hid hv1
  have Hv2 := Lib.hid hv2
  clear hv1 hv2
  go_enter Tryz.func30, Tryz.ntmps30
  go_wp2_with fail
  go_loopw [13] (fun s13 wr => ∃ k : Nat, k ≤ l.length ∧ s13 = .int .i64 k ∧ Below w.heap.size w wr) (fun i _ => l.length - (intOf i).toNat)
  case atStart => exact ⟨0, Nat.zero_le _, rfl, Below.refl _ _⟩
  case round =>
    obtain ⟨k, hk, rfl, hb⟩ := hrel
    have hwr : Ok I wr := hw.below (Nat.le_refl _) hb
    by_cases hlt : k < l.length
    · obtain ⟨p, bb, off, cap', hp, hvv, p0⟩ := strAt Hv1.out hwr k hlt
      cases hvv
      obtain ⟨q, b', off', cap'', hq, hvv, q0⟩ := strAt Hv2.out hwr k hlt
      cases hvv
      obtain rfl : p = q := hp.symm.trans hq
      have x0 := cell_regrown p0
      have y0 := cell_regrown q0
      have f1 : (p != p) = false := by simp
      have f2 : (p == p) = true := by simp
      clear hp hq
      go_wp2_with fail
      refine wp_region_quiet_below (by kernel_rfl) (by kernel_rfl) ?_
      repeat (go_big_quiet_step ((fail)))
      refine wpQuiet_nil ?_
      intro w2 hwq
      have hb2 : Below (wr).heap.size (wr) w2 := by
        obtain ⟨pq, rfl⟩ := hwq
        exact below_regrown _ _ _
      clear hwq
      go_wp2
      go_roundw
      case rel => exact ⟨k + 1, by omega, by go_num, hb.trans (hb2.mono hb.size)⟩
      case measure => simp [intOf]; omega
    · go_wp2
      go_ret
      exact ⟨rfl, hb⟩
end Go.Proofs.YtcbmdghnlbieeaaGreatDoor
namespace Go.Proofs.YtcbmdghnlbieeaaGreatDoor
open Go.RowKit

theorem dm_a {a b : List Ent} {i j : Nat} {x : Ent} (hi : i < a.length) (hx : a[i] = x) (h : b.length ≤ j ∨ ∃ y, ∃ hj : j < b.length, b[j] = y ∧ ltE x y = true) : diffM (a.drop i) (b.drop j) = x.path :: diffM (a.drop (i + 1)) (b.drop j) := by
  rw [List.drop_eq_getElem_cons hi, hx]
  rcases h with h | ⟨y, hj, hy, hl⟩
  · rw [List.drop_of_length_le h, diffM]
  · rw [List.drop_eq_getElem_cons hj, hy, diffM, if_pos hl]
theorem dm_b {a b : List Ent} {i j : Nat} {y : Ent} (hj : j < b.length) (hy : b[j] = y) (h : a.length ≤ i ∨ ∃ x, ∃ hi : i < a.length, a[i] = x ∧ ltE x y = false ∧ ltE y x = true) : diffM (a.drop i) (b.drop j) = y.path :: diffM (a.drop i) (b.drop (j + 1)) := by
  rw [List.drop_eq_getElem_cons hj, hy]
  rcases h with h | ⟨x, hi, hx, hl, hr⟩
  · rw [List.drop_of_length_le h, diffM]
  · rw [List.drop_eq_getElem_cons hi, hx, diffM, if_neg (by rw [hl]; simp), if_pos hr]
theorem dm_e {a b : List Ent} {i j : Nat} {x y : Ent} (hi : i < a.length) (hx : a[i] = x) (hj : j < b.length) (hy : b[j] = y) (h1 : ltE x y = false) (h2 : ltE y x = false) : diffM (a.drop i) (b.drop j) = (if meaning x y then [] else [x.path]) ++ diffM (a.drop (i + 1)) (b.drop (j + 1)) := by
  rw [List.drop_eq_getElem_cons hi, hx, List.drop_eq_getElem_cons hj, hy, diffM, if_neg (by rw [h1]; simp), if_neg (by rw [h2]; simp)]
  cases meaning x y <;> rfl
theorem dm_end {a b : List Ent} {i j : Nat} (hi : a.length ≤ i) (hj : b.length ≤ j) : diffM (a.drop i) (b.drop j) = [] := by
  rw [List.drop_of_length_le hi, List.drop_of_length_le hj, diffM]
theorem cmpP_cases (x y : Ent) : (cmpP x.path y.path = -1 ∧ ltE x y = true) ∨ (cmpP x.path y.path = 1 ∧ ltE x y = false ∧ ltE y x = true) ∨ (cmpP x.path y.path = 0 ∧ ltE x y = false ∧ ltE y x = false) := by
  unfold cmpP ltE
  cases h1 : ltP (els x.path) (els y.path)
  · cases h2 : ltP (els y.path) (els x.path)
    · exact .inr (.inr ⟨by simp, rfl, rfl⟩)
    · exact .inr (.inl ⟨by simp, rfl, rfl⟩)
  · exact .inl ⟨by simp, rfl⟩
theorem own_emptyS {I : IH} (W : World) (n : Nat) (hn : n = W.heap.size) : OwnS tStr 9 I (W.alloc (.cells #[] 9)) n (.slice (some ⟨n, 0, none⟩) 0 0) [] := by
  subst hn
  exact ⟨[], World.ownsRow_made W #[] 0 (Nat.le_refl _) (Nat.zero_le _) (by simp), LiesL.nil _ _⟩

set_option maxRecDepth 100000 in
set_option maxHeartbeats 2000000 in
theorem ref37_Diff (I : IH) (v1 v2 : Value) (a b : List Ent) (hv1 : RdS tEnt I v1 a) (hv2 : RdS tEnt I v2 b) (hsa : SmlT a) (hsb : SmlT b) (hna : a.length ≤ 1000) (hnb : b.length ≤ 1000) (w : World) (hw : Ok I w) :
    Calls Tryz.prog 32 #[v1, v2] w (RetS tStr I w (diffM a b)) := by
  obtain ⟨ao, cap, rfl, hcap, hcm, _⟩ := id hv1
  obtain ⟨ao2, cap2, rfl, hcap2, hcm2, _⟩ := id hv2
  have Hv1 := Lib.hid hv1
  have Hv2 := Lib.hid hv2
  have Hsa := Lib.hid hsa
  have Hsb := Lib.hid hsb
  have Hst := Lib.hid (own_emptyS (I := I) w _ rfl)
  have Hfr := Lib.hid (fun b (hb : w.heap.size ≤ b) => hw.fresh (b := b) hb)
  clear hv1 hv2 hsa hsb
  go_enter Tryz.func32, Tryz.ntmps32
  go_wp2_with fail
  go_loopw [5, 6, 7] (fun s5 s6 s7 wr => ∃ (i j : Nat) (out : List Bytes), i ≤ a.length ∧ j ≤ b.length ∧ s6 = .int .i64 i ∧ s7 = .int .i64 j ∧ OwnS tStr 9 I wr w.heap.size s5 out ∧ out.length ≤ i + j ∧ out ++ diffM (a.drop i) (b.drop j) = diffM a b ∧ Below w.heap.size w wr) (fun _ i j _ => (a.length - (intOf i).toNat) + (b.length - (intOf j).toNat))
  case atStart => exact ⟨0, 0, [], Nat.zero_le _, Nat.zero_le _, rfl, rfl, Hst.out, Nat.le_refl _, rfl, (Below.refl _ _).alloc (Nat.le_refl _) _⟩
  case round =>
    clear Hst
    obtain ⟨i, j, out, hi, hj, rfl, rfl, hown, hol, hr, hb⟩ := hrel
    have Hown := Lib.hid hown
    have Hr := Lib.hid hr
    have hwr : Ok I wr := hw.below (Nat.le_refl _) hb
    clear hown hr
    by_cases hia : i < a.length
    · obtain ⟨x, va, vx, bb, off, cap', hlx, hvv, ⟨c0, c1, c2, c3, c4, c5, c6⟩, h1, h2⟩ := entAt Hv1.out hwr i hia
      cases hvv
      have Hlx := Lib.hid hlx
      have Hxs := Lib.hid (Hsa.out x (by rw [← hlx]; exact List.getElem_mem hia))
      obtain ⟨xa, xc, rfl, _, _, _⟩ := id h1
      obtain ⟨xx, xd, rfl, _, _, _⟩ := id h2
      have Hx1 := Lib.hid h1
      have Hx2 := Lib.hid h2
      clear hlx h1 h2
      by_cases hjb : j < b.length
      · obtain ⟨y, vc, vy, bc, off', cap'', hly, hvv, ⟨d0, d1, d2, d3, d4, d5, d6⟩, h1, h2⟩ := entAt Hv2.out hwr j hjb
        cases hvv
        have Hly := Lib.hid hly
        have Hys := Lib.hid (Hsb.out y (by rw [← hly]; exact List.getElem_mem hjb))
        obtain ⟨ya, yc, rfl, _, _, _⟩ := id h1
        obtain ⟨yx, yd, rfl, _, _, _⟩ := id h2
        have Hy1 := Lib.hid h1
        have Hy2 := Lib.hid h2
        clear hly h1 h2
        have Hcm := Lib.hid (fun w hw => ref31_Compare I x.path y.path Hxs.out.1 Hys.out.1 w hw)
        have hcc := cmpP_cases x y
        generalize cmpP x.path y.path = c at Hcm hcc
        have e1 := cell_regrown c1
        have f1 := cell_regrown d1
        rcases hcc with ⟨rfl, hl⟩ | ⟨rfl, hl, hl2⟩ | ⟨rfl, hl, hl2⟩
        · have Hn := Lib.hid (show (out ++ [x.path]) ++ diffM (a.drop (i + 1)) (b.drop j) = diffM a b by rw [← Hr.out, dm_a hia Hlx.out (.inr ⟨y, hjb, Hly.out, hl⟩)]; simp)
          clear hl
          go_wp2_with fail
          refine wp_region_quiet_below (by kernel_rfl) (by kernel_rfl) ?_
          repeat (go_big_quiet_step ((with_reducible exact Calls.regrown_of (Hcm.out _ (hwr.below (Nat.le_refl _) (below_regrown _ _ _))))))
          refine wpQuiet_nil ?_
          intro w2 hwq
          have hb2 : Below (wr).heap.size (wr) w2 := by
            obtain ⟨pq, rfl⟩ := hwq
            exact below_regrown _ _ _
          clear hwq
          have c1 := cell_thru hb2 c1
          have hb2' := hb.trans (hb2.mono hb.size)
          have Hown2 := Lib.hid (Hown.out.below hb2)
          clear e1 f1 hb2 hb
          go_wp2_with (at_builtin; refine wpList_append1 (w0 := w2) str_elem rfl _ _ rfl _ _ _ rfl Hown2.out x.path [S x.path] _ rfl rfl (by omega) (by omega) (Below.size hb2') ?_)
          intro v9 w9 hown9 hg9
          have hb9 := Below.own hb2' hg9 Hown2.out (Nat.le_refl _) (Below.size hb2')
          go_wp2
          go_roundw
          case rel => exact ⟨i + 1, j, out ++ [x.path], by omega, by omega, by go_num, by go_num, hown9, (by simp; omega), Hn.out, hb9⟩
          case measure => simp [intOf]; omega
        · have Hn := Lib.hid (show (out ++ [y.path]) ++ diffM (a.drop i) (b.drop (j + 1)) = diffM a b by rw [← Hr.out, dm_b hjb Hly.out (.inr ⟨x, hia, Hlx.out, hl, hl2⟩)]; simp)
          clear hl hl2
          go_wp2_with fail
          refine wp_region_quiet_below (by kernel_rfl) (by kernel_rfl) ?_
          repeat (go_big_quiet_step ((with_reducible exact Calls.regrown_of (Hcm.out _ (hwr.below (Nat.le_refl _) (below_regrown _ _ _))))))
          refine wpQuiet_nil ?_
          intro w2 hwq
          have hb2 : Below (wr).heap.size (wr) w2 := by
            obtain ⟨pq, rfl⟩ := hwq
            exact below_regrown _ _ _
          clear hwq
          have d1 := cell_thru hb2 d1
          have hb2' := hb.trans (hb2.mono hb.size)
          have Hown2 := Lib.hid (Hown.out.below hb2)
          clear e1 f1 hb2 hb
          go_wp2_with (at_builtin; refine wpList_append1 (w0 := w2) str_elem rfl _ _ rfl _ _ _ rfl Hown2.out y.path [S y.path] _ rfl rfl (by omega) (by omega) (Below.size hb2') ?_)
          intro v9 w9 hown9 hg9
          have hb9 := Below.own hb2' hg9 Hown2.out (Nat.le_refl _) (Below.size hb2')
          go_wp2
          go_roundw
          case rel => exact ⟨i, j + 1, out ++ [y.path], by omega, by omega, by go_num, by go_num, hown9, (by simp; omega), Hn.out, hb9⟩
          case measure => simp [intOf]; omega
        · have Hn := Lib.hid (show (out ++ (if meaning x y then [] else [x.path])) ++ diffM (a.drop (i + 1)) (b.drop (j + 1)) = diffM a b by rw [← Hr.out, dm_e hia Hlx.out hjb Hly.out hl hl2]; simp)
          have Hme := Lib.hid (fun w hw => ref37_Meaning I x y _ _ _ _ Hx1.out Hx2.out Hy1.out Hy2.out w hw)
          clear hl hl2
          go_wp2_with fail
          refine wp_region_quiet_below (by kernel_rfl) (by kernel_rfl) ?_
          repeat (go_big_quiet_step ((with_reducible exact Calls.regrown_of (Hcm.out _ (hwr.below (Nat.le_refl _) (below_regrown _ _ _))))))
          refine wpQuiet_nil ?_
          intro w2 hwq
          have hb2 : Below (wr).heap.size (wr) w2 := by
            obtain ⟨pq, rfl⟩ := hwq
            exact below_regrown _ _ _
          clear hwq
          obtain ⟨c0, c1, c2, c3, c4, c5, c6⟩ := EntAt.thru (⟨c0, c1, c2, c3, c4, c5, c6⟩ : EntAt wr bb (off + i * 7) x _ _) hb2
          obtain ⟨d0, d1, d2, d3, d4, d5, d6⟩ := EntAt.thru (⟨d0, d1, d2, d3, d4, d5, d6⟩ : EntAt wr bc (off' + j * 7) y _ _) hb2
          have hb2' := hb.trans (hb2.mono hb.size)
          have hw2 : Ok I w2 := hwr.below (Nat.le_refl _) hb2
          have Hown2 := Lib.hid (Hown.out.below hb2)
          clear e1 f1 hb2 hb Hown
          have e0 := cell_regrown c0
          have e1 := cell_regrown c1
          have e2 := cell_regrown c2
          have e3 := cell_regrown c3
          have e4 := cell_regrown c4
          have e5 := cell_regrown c5
          have e6 := cell_regrown c6
          have f0 := cell_regrown d0
          have f1 := cell_regrown d1
          have f2 := cell_regrown d2
          have f3 := cell_regrown d3
          have f4 := cell_regrown d4
          have f5 := cell_regrown d5
          have f6 := cell_regrown d6
          generalize meaning x y = m at Hn Hme
          cases m
          · go_wp2_with fail
            refine wp_region_quiet_below (by kernel_rfl) (by kernel_rfl) ?_
            repeat (go_big_quiet_step ((with_reducible exact Calls.regrown_of (Hme.out _ (hw2.below (Nat.le_refl _) (below_regrown _ _ _))))))
            refine wpQuiet_nil ?_
            intro w3 hwq
            have hb3 : Below (w2).heap.size (w2) w3 := by
              obtain ⟨pq, rfl⟩ := hwq
              exact below_regrown _ _ _
            clear hwq
            have c1 := cell_thru hb3 c1
            have hb3' := hb2'.trans (hb3.mono hb2'.size)
            have Hown3 := Lib.hid (Hown2.out.below hb3)
            clear e0 e1 e2 e3 e4 e5 e6 f0 f1 f2 f3 f4 f5 f6 hb3 hb2' Hown2
            go_wp2_with (at_builtin; refine wpList_append1 (w0 := w3) str_elem rfl _ _ rfl _ _ _ rfl Hown3.out x.path [S x.path] _ rfl rfl (by omega) (by omega) (Below.size hb3') ?_)
            intro v9 w9 hown9 hg9
            have hb9 := Below.own hb3' hg9 Hown3.out (Nat.le_refl _) (Below.size hb3')
            go_wp2
            go_roundw
            case rel => exact ⟨i + 1, j + 1, out ++ [x.path], by omega, by omega, by go_num, by go_num, hown9, (by simp; omega), Hn.out, hb9⟩
            case measure => simp [intOf]; omega
          · go_wp2_with fail
            refine wp_region_quiet_below (by kernel_rfl) (by kernel_rfl) ?_
            repeat (go_big_quiet_step ((with_reducible exact Calls.regrown_of (Hme.out _ (hw2.below (Nat.le_refl _) (below_regrown _ _ _))))))
            refine wpQuiet_nil ?_
            intro w3 hwq
            have hb3 : Below (w2).heap.size (w2) w3 := by
              obtain ⟨pq, rfl⟩ := hwq
              exact below_regrown _ _ _
            clear hwq
            have hb3' := hb2'.trans (hb3.mono hb2'.size)
            have Hown3 := Lib.hid (Hown2.out.below hb3)
            clear e0 e1 e2 e3 e4 e5 e6 f0 f1 f2 f3 f4 f5 f6 hb3 hb2' Hown2
            go_wp2
            go_roundw
            case rel => exact ⟨i + 1, j + 1, out, by omega, by omega, by go_num, by go_num, Hown3.out, by omega, (by have := Hn.out; simpa using this), hb3'⟩
            case measure => simp [intOf]; omega
      · have Hn := Lib.hid (show (out ++ [x.path]) ++ diffM (a.drop (i + 1)) (b.drop j) = diffM a b by rw [← Hr.out, dm_a hia Hlx.out (.inl (by omega))]; simp)
        go_wp2_with (at_builtin; refine wpList_append1 (w0 := wr) str_elem rfl _ _ rfl _ _ _ rfl Hown.out x.path [S x.path] _ rfl rfl (by omega) (by omega) (Below.size hb) ?_)
        intro v9 w9 hown9 hg9
        have hb9 := Below.own hb hg9 Hown.out (Nat.le_refl _) (Below.size hb)
        go_wp2
        go_roundw
        case rel => exact ⟨i + 1, j, out ++ [x.path], by omega, by omega, by go_num, by go_num, hown9, (by simp; omega), Hn.out, hb9⟩
        case measure => simp [intOf]; omega
    · by_cases hjb : j < b.length
      · obtain ⟨y, vc, vy, bc, off', cap'', hly, hvv, ⟨d0, d1, d2, d3, d4, d5, d6⟩, h1, h2⟩ := entAt Hv2.out hwr j hjb
        cases hvv
        have Hn := Lib.hid (show (out ++ [y.path]) ++ diffM (a.drop i) (b.drop (j + 1)) = diffM a b by rw [← Hr.out, dm_b hjb hly (.inl (by omega))]; simp)
        clear hly h1 h2
        go_wp2_with (at_builtin; refine wpList_append1 (w0 := wr) str_elem rfl _ _ rfl _ _ _ rfl Hown.out y.path [S y.path] _ rfl rfl (by omega) (by omega) (Below.size hb) ?_)
        intro v9 w9 hown9 hg9
        have hb9 := Below.own hb hg9 Hown.out (Nat.le_refl _) (Below.size hb)
        go_wp2
        go_roundw
        case rel => exact ⟨i, j + 1, out ++ [y.path], by omega, by omega, by go_num, by go_num, hown9, (by simp; omega), Hn.out, hb9⟩
        case measure => simp [intOf]; omega
      · have Hend := Lib.hid (show out = diffM a b by rw [← Hr.out, dm_end (by omega) (by omega)]; simp)
        go_wp2
        go_ret
        obtain ⟨I', hI1, hI2, hI3, _⟩ := Hown.out.freeze hwr Hfr.out
        rw [← Hend.out]
        exact ⟨_, I', rfl, hb, hI1, hI2, hI3⟩
end Go.Proofs.YtcbmdghnlbieeaaGreatDoor
namespace Go.Proofs.YtcbmdghnlbieeaaGreatDoor
open Go

theorem ask_drawn {α : Type} : ∀ (k : Ask α) (w : World), w.drawn ≤ (w.ask k).2.drawn
  | .done a, w => Nat.le_refl _
  | .ask what range k, w => by
    unfold World.ask
    simp only
    split
    · exact ask_drawn (k 0) w
    · exact Nat.le_trans (Nat.le_succ _) (ask_drawn (k _) { w with drawn := w.drawn + 1 })
theorem sys_drawn (w : World) (c : Sys) : w.drawn ≤ (w.sys c).2.drawn := by
  unfold World.sys
  have h := ask_drawn (Kernel.perform c w.os) w
  split
  · exact Nat.le_refl _
  · rename_i r os w' _ e
    rw [e] at h
    exact h
theorem freeze_drawn (w : World) (a : Addr) (n : Nat) : (w.freeze a n).drawn = w.drawn := by
  unfold World.freeze
  split <;> rfl
theorem viewStore_drawn {p : Program} {w w' : World} {at_ k : Addr} {u : TypeId} {v : Value} {b : Bool} {l : List Addr} (h : w.viewStore p at_ u k v b = .ok (w', l)) : w'.drawn = w.drawn := by
  unfold World.viewStore at h
  simp only [bind, Except.bind, pure, Except.pure] at h
  repeat' split at h
  all_goals first | (cases h; done) | (injection h with h; injection h with h1 h2; rw [← h1])
theorem farStore_drawn {p : Program} {w w' : World} {a : Addr} {v : Value} {b : Bool} {l : List Addr} (h : w.farStore p a v b = .ok (w', l)) : w'.drawn = w.drawn := by
  unfold World.farStore at h
  split at h
  · split at h
    · rename_i r hr
      injection h with h
      subst h
      exact viewStore_drawn hr
    · cases h
  · cases h

theorem setCell_drawn (w : World) (a : Addr) (v : Value) : (w.setCell a v).drawn = w.drawn := by
  unfold World.setCell
  rfl

/-- What a result leaves. -/
def Result.wd {α : Type} : Result α → Nat
  | .ok _ w => w.drawn
  | .halt _ w => w.drawn
theorem run_drawn {α : Type} (p : Program) : ∀ (m : Sem α) (w : World), w.drawn ≤ Result.wd (m.run p w) := by
  intro m
  induction m with
  | pure a => exact fun w => Nat.le_refl _
  | load m a k ih =>
    intro w
    unfold Sem.run
    split
    · exact ih _ _
    · split
      · exact ih _ _
      · exact Nat.le_refl _
  | store m a v k ih =>
    intro w
    have key : w.drawn ≤ Result.wd (match w.cell? a with
      | some _ => if w.frozen? a then Result.halt (.unsupported (.unsafePointer "a write to bytes that a string shares")) w else k.run p (w.setCell a v)
      | none => match w.farStore p a v (m == .atomic) with
        | .ok (w, _) => k.run p w
        | .error h => .halt h w) := by
      split
      · split
        · exact Nat.le_refl _
        · exact Nat.le_trans (Nat.le_of_eq (setCell_drawn w a v).symm) (ih _)
      · split
        · rename_i w' l hw
          exact Nat.le_trans (Nat.le_of_eq (farStore_drawn hw).symm) (ih _)
        · exact Nat.le_refl _
    cases v <;> first | exact key | exact Nat.le_refl _
  | new o k ih => exact fun w => ih _ { w with heap := w.heap.push o }
  | shape r k ih => exact fun w => ih _ w
  | freeze a n k ih =>
    intro w
    exact Nat.le_trans (Nat.le_of_eq (freeze_drawn w a n).symm) (ih (w.freeze a n))
  | frozen a k ih => exact fun w => ih _ w
  | getObj r k ih =>
    intro w
    unfold Sem.run
    split
    · exact Nat.le_refl _
    · exact ih _ _
    · exact Nat.le_refl _
  | setObj r o k ih =>
    intro w
    unfold Sem.run
    split
    · exact Nat.le_refl _
    · exact ih { w with heap := w.heap.setIfInBounds r o }
    · exact Nat.le_refl _
  | choose q k ih =>
    intro w
    unfold Sem.run
    split
    · exact ih _ _
    · exact Nat.le_trans (Nat.le_succ _) (ih _ { w with drawn := w.drawn + 1 })
  | sys c k ih => exact fun w => Nat.le_trans (sys_drawn w c) (ih _ _)
  | program k ih => exact fun w => ih _ w
  | mark m k ih => exact fun w => ih w
  | halt h => exact fun w => Nat.le_refl _

theorem run_ok {α : Type} {p : Program} {m : Sem α} {w w' : World} {a : α} (h : m.run p w = .ok a w') : w.drawn ≤ w'.drawn := by
  have := run_drawn p m w
  rw [h] at this
  exact this
theorem run_to {α : Type} {p : Program} {m : Sem α} {w w' : World} {a : α} {n : Nat} (h : m.run p w = .ok a w') (e : w'.drawn = n) : w.drawn ≤ n := by rw [← e]; exact run_ok h
theorem run_halt {α : Type} {p : Program} {m : Sem α} {w w' : World} {x : Halt} (h : m.run p w = .halt x w') : w.drawn ≤ w'.drawn := by
  have := run_drawn p m w
  rw [h] at this
  exact this

/-- What a goroutine's step leaves. -/
def GStep.wd : GStep → Nat
  | .go _ w _ => w.drawn
  | .comm _ _ _ _ w _ => w.drawn
  | .spawn _ _ w _ => w.drawn
  | .count _ w _ => w.drawn
  | .timer _ _ w _ => w.drawn
  | .alone _ _ w _ => w.drawn
  | .newcoro _ _ _ w _ => w.drawn
  | .coroswitch _ _ _ w _ => w.drawn
  | .collect _ w _ => w.drawn
  | .watch _ w _ => w.drawn
  | .ended _ w _ => w.drawn
theorem wd_after (es : Array Event) (g : GStep) : GStep.wd (g.after es) = GStep.wd g := by cases g <;> rfl
theorem endWith_wd (w : World) (fd : Nat) (text : ByteArray) (o : Outcome) : w.drawn ≤ GStep.wd (endWith w fd text o) := by
  unfold endWith
  have h := sys_drawn w (.write fd text)
  simp only
  split
  · rename_i n w' e
    rw [e] at h
    split <;> exact h
  · rename_i n w' e
    rw [e] at h
    exact h
  · rename_i n w' _ _ e
    rw [e] at h
    exact h
theorem endThrow_wd (fr : Frame) (m : String) (w : World) : GStep.wd (endThrow fr m w) = w.drawn := rfl
theorem endPrinting_wd (p : Program) (fr : Frame) (v : Value) (w : World) : GStep.wd (endPrinting p fr v w) = w.drawn := by
  unfold endPrinting
  simp only
  split <;> rfl
theorem endFatal_wd (p : Program) (fr : Frame) (cs : List Frame) (dy : Option Dying) (m : String) (w : World) : w.drawn ≤ GStep.wd (endFatal p fr cs dy m w) := by
  unfold endFatal
  simp only
  split
  · rename_i e; exact run_ok e
  · rename_i e; exact run_halt e
  · rename_i e; exact run_halt e
theorem writeOn_wd (p : Program) (fr : Frame) (d : Dying) (f : Fatal) (w : World) : w.drawn ≤ GStep.wd (writeOn p fr d f w) := by
  unfold writeOn
  simp only [Sem.runT_eq]
  split
  · exact Nat.le_refl _
  · split
    · rename_i e; injection e with e _; exact run_ok e
    · rename_i e; injection e with e _; exact run_halt e
    · rename_i e; injection e with e _; exact run_halt e
    · rename_i e; injection e with e _; exact run_halt e
theorem die_wd (p : Program) (fr : Frame) (d : Dying) (w : World) : w.drawn ≤ GStep.wd (die p fr d w) := by
  unfold die
  split
  · exact writeOn_wd ..
  · split
    · split
      · exact Nat.le_refl _
      · exact endWith_wd ..
    · simp only [Sem.runT_eq]
      split
      · exact Nat.le_refl _
      · split
        · rename_i e; exact run_ok e
        · rename_i e; exact run_halt e
      · rw [wd_after]
        split
        · rename_i e; exact run_ok e
        · rename_i e; exact run_ok e
        · rename_i e; exact run_halt e
        · rename_i e; rw [endPrinting_wd]; exact run_halt e
        · exact Nat.le_refl _
      · exact Nat.le_refl _
theorem doReturn_wd (p : Program) (main : Bool) (fr : Frame) (cs : List Frame) (dy : Option Dying) (v : Value) (w : World) : GStep.wd (doReturn p main fr cs dy v w) = w.drawn := by
  unfold doReturn
  repeat' split
  all_goals rfl
theorem early_wd (p : Program) (fr : Frame) (cs : List Frame) (dy : Option Dying) (g : Nat) (w : World) : w.drawn ≤ GStep.wd (early p fr cs dy g w) := by
  unfold early
  have hn : ∀ w' : World, GStep.wd (match w'.heap[g]? with
    | some (.pending c elem) => .go { frame := fr, callers := cs, status := .running, dying := dy } { w' with heap := w'.heap.setIfInBounds g (.cells c elem) }
    | _ => .ended (.stuck "early: the variable does not wait" (fr.pos p)) w') = w'.drawn := by
    intro w'
    split <;> rfl
  simp only
  repeat' split
  all_goals first
    | exact Nat.le_refl _
    | (rename_i e _ _ _ _; exact run_ok e)
    | (rename_i e _ _ _; exact run_ok e)
    | (rename_i e _ _; exact run_ok e)
    | (rename_i e _; exact run_ok e)
    | (rename_i e; exact run_ok e)
    | (rename_i e; exact run_halt e)
    | (have h := run_drawn p (choose (Question.early g)) w
       simp_all [Result.wd, GStep.wd])
theorem ite_wd {c : Prop} [Decidable c] {x y : GStep} {n : Nat} (hx : n ≤ GStep.wd x) (hy : n ≤ GStep.wd y) : n ≤ GStep.wd (if c then x else y) := by
  split
  · exact hx
  · exact hy
theorem callDeferred_wd (p : Program) (fr : Frame) (cs : List Frame) (dy : Option Dying) (d : Deferred) (w : World) : w.drawn ≤ GStep.wd (callDeferred p fr cs dy d w) := by
  unfold callDeferred
  simp only [Sem.runT_eq]
  refine ite_wd ?_ ?_
  · exact Nat.le_refl _
  · rw [wd_after]
    have hk := run_drawn p (invoke d.target d.args) w
    generalize (invoke d.target d.args).run p w = r at hk
    cases r with
    | ok n w' =>
      have hk : w.drawn ≤ w'.drawn := hk
      cases n <;> first
        | exact hk
        | (rename_i b _; cases b <;> exact hk)
        | (rename_i _ b; cases b <;> exact hk)
        | (simp only; split <;> exact hk)
    | halt x w' =>
      have hk : w.drawn ≤ w'.drawn := hk
      cases x <;> first
        | exact hk
        | exact Nat.le_trans hk (endFatal_wd ..)
theorem unwind_wd (p : Program) (main : Bool) (fr : Frame) (cs : List Frame) (dy : Option Dying) (w : World) : w.drawn ≤ GStep.wd (unwind p main fr cs dy w) := by
  unfold unwind
  simp only [Sem.runT_eq]
  split
  · rw [wd_after]
    split
    · rename_i e; exact run_ok e
    · rename_i e; exact run_halt e
  · exact callDeferred_wd ..
  · split
    · exact Nat.le_refl _
    · split
      · exact Nat.le_refl _
      · split
        · exact Nat.le_refl _
        · split
          · split
            · exact Nat.le_refl _
            · split
              · rename_i e; exact run_ok e
              · rename_i e; exact run_halt e
              · rename_i e; exact run_halt e
          · split
            · rw [endPrinting_wd]; exact Nat.le_refl _
            · exact Nat.le_refl _
    · split
      · rw [doReturn_wd]; exact Nat.le_refl _
      · rw [wd_after]
        split
        · rename_i e; rw [doReturn_wd]; exact run_ok e
        · rename_i e; exact run_halt e
        · rename_i e; exact run_halt e
theorem apply_wd (p : Program) (l : Bool) (fr : Frame) (cs : List Frame) (dy : Option Dying) (s : Sem Next) (w : World) : w.drawn ≤ GStep.wd (stepG.apply p l fr cs dy s w) := by
  unfold stepG.apply
  have hl : (if l = true then s.runT p w #[] else (s.run p w, #[])).1 = s.run p w := by
    split
    · rw [Sem.runT_eq]
    · rfl
  generalize (if l = true then s.runT p w #[] else (s.run p w, #[])) = x at hl
  obtain ⟨r, es⟩ := x
  subst hl
  simp only
  rw [wd_after]
  have hk := run_drawn p s w
  generalize s.run p w = r at hk
  cases r with
  | ok n w' =>
    have hk : w.drawn ≤ w'.drawn := hk
    cases n <;> first
      | exact hk
      | (rename_i b _; cases b <;> exact hk)
      | (simp only; split <;> exact hk)
      | (simp only; refine ite_wd ?_ ?_ <;> exact hk)
  | halt x w' =>
    have hk : w.drawn ≤ w'.drawn := hk
    cases x <;> first
      | exact hk
      | exact Nat.le_trans hk (endFatal_wd ..)
      | (rename_i u; cases u <;> first | exact hk | exact Nat.le_trans hk (early_wd ..))
theorem oper_wd (p : Program) (l : Bool) (fr : Frame) (cs : List Frame) (dy : Option Dying) (w : World) : w.drawn ≤ GStep.wd (stepG.oper p l fr cs dy w) := by
  unfold stepG.oper
  split
  · exact Nat.le_refl _
  · split <;> exact apply_wd ..
theorem elim_wd {α : Type} {o : Option α} {x : GStep} {f : α → GStep} {n : Nat} (hx : n ≤ GStep.wd x) (hf : ∀ k, n ≤ GStep.wd (f k)) : n ≤ GStep.wd (o.elim x f) := by
  cases o with
  | none => exact hx
  | some k => exact hf k
theorem exec_wd (p : Program) (main l : Bool) (fr : Frame) (cs : List Frame) (dy : Option Dying) (w : World) : w.drawn ≤ GStep.wd (stepG.exec p main l fr cs dy w) := by
  unfold stepG.exec
  simp only [Sem.runT_eq]
  repeat' split
  all_goals first
    | exact Nat.le_refl _
    | exact apply_wd ..
    | exact oper_wd ..
    | (rename_i e; exact run_ok e)
    | (rename_i e; exact run_halt e)
    | (rename_i e; rw [wd_after, doReturn_wd]; exact run_ok e)
    | (rename_i e; rw [wd_after]; exact Nat.le_trans (run_ok e) (apply_wd ..))
    | (rename_i e; rw [wd_after]; exact run_ok e)
    | (rename_i e; rw [wd_after]; exact run_halt e)
    | (refine elim_wd ?_ (fun k => ?_) <;> first
        | exact Nat.le_refl _
        | exact apply_wd ..
        | (rename_i e; rw [wd_after, doReturn_wd]; exact run_ok e)
        | (rename_i e; rw [wd_after]; exact run_halt e))
theorem stepG_wd (p : Program) (main : Bool) (g : Goroutine) (w : World) (l : Bool) : w.drawn ≤ GStep.wd (stepG p main g w l) := by
  unfold stepG
  split
  split
  · exact die_wd ..
  · exact exec_wd ..
  · exact unwind_wd ..
/-- What a machine's step leaves. -/
def Stepped.wd : Stepped → Nat
  | .next m => m.world.drawn
  | .ended _ w => w.drawn
theorem waiting_drawn {rest : Rest} {cases : Array CommCase} {w w' : World} (h : waitingAt rest cases w = some w') : w'.drawn = w.drawn := by
  unfold waitingAt at h
  split at h
  · split at h
    · injection h with h; subst h; rfl
    · cases h
  · injection h with h; subst h; rfl
theorem communicate_wd (p : Program) (rest : Rest) (gs : Array Goroutine) (i : Nat) (g : Goroutine) (cases : Array CommCase) (b : Bool) (shape : CommShape) (w : World) : w.drawn ≤ Stepped.wd (communicate p rest gs i g cases b shape w).1 := by
  unfold communicate
  simp only
  split
  · exact Nat.le_refl _
  · split
    · split
      · split
        · rename_i e
          show w.drawn ≤ World.drawn _
          exact Nat.le_of_eq (waiting_drawn e).symm
        · exact Nat.le_refl _
      · exact Nat.le_refl _
    · split
      · rename_i e; exact run_halt e
      · rename_i e
        have h1 := run_ok e
        clear e
        refine Nat.le_trans h1 ?_
        clear h1
        repeat' split
        all_goals first
          | exact Nat.le_refl _
          | (rename_i e; exact run_halt e)
          | (rename_i e; exact run_ok e)
          | (rename_i e _; exact run_ok e)
          | (rename_i e _ _; have h := run_ok e; exact h)
          | (rename_i e _ _ _; have h := run_ok e; exact h)
          | (rename_i e _; exact run_halt e)
          | (rename_i e _ _; exact run_halt e)
theorem look_wd (p : Program) (gs : Array Goroutine) (rest : Rest) (w : World) : w.drawn ≤ Stepped.wd (look p gs rest w) := by
  unfold look
  simp only
  split
  · split
    · exact Nat.le_refl _
    · split
      · exact Nat.le_refl _
      · split
        · rename_i e
          have h1 := run_ok e
          clear e
          exact h1
        · rename_i e; exact run_halt e
        · rename_i e; exact run_halt e
  · exact Nat.le_refl _
theorem serve_wd (p : Program) (m : Machine) (k : Nat) : m.world.drawn ≤ Stepped.wd (serve p m k) := by
  unfold serve
  simp only
  repeat' split
  all_goals first
    | exact Nat.le_refl _
    | (simp only [Stepped.wd]; grind [run_ok, run_halt, waiting_drawn])
theorem named_wd {m : Machine} {var : Addr} {f : Nat → Timer → Value × Machine} {v : Value} {m' : Machine} (hf : ∀ k t, (f k t).2.world.drawn = m.world.drawn) (h : timerOp.named m var f = .ok (v, m')) : m'.world.drawn = m.world.drawn := by
  unfold timerOp.named at h
  split at h
  · injection h with h
    rw [← hf, h]
  · cases h
theorem retime_wd (m : Machine) (k : Nat) (t : Timer) (a b : Nat) : (retime m k t a b).2.world.drawn = m.world.drawn := by
  unfold retime
  simp only
  split
  · unfold drain
    split <;> rfl
  · rfl
theorem opened_wd {m m' : Machine} {var : Addr} (h : timerOp.opened m var = some m') : m'.world.drawn = m.world.drawn := by
  unfold timerOp.opened at h
  split at h
  · split at h
    · injection h with h; rw [← h]
    · cases h
  · injection h with h; rw [← h]
theorem timerOp_wd {m m' : Machine} {op : TimerOp} {v : Value} (h : timerOp m op = .ok (v, m')) : m'.world.drawn = m.world.drawn := by
  unfold timerOp at h
  split at h
  · split at h
    · injection h with h; injection h with _ h; rw [← h]; rfl
    · split at h
      · split at h
        · cases h
        · injection h with h; injection h with _ h; rw [← h]
      · cases h
  · exact named_wd (fun k t => retime_wd ..) h
  · split at h
    · rename_i e
      exact named_wd (fun k t => (retime_wd ..).trans (opened_wd e)) h
    · cases h
  · injection h with h; injection h with _ h; rw [← h]; rfl
theorem advance_wd (m : Machine) (t : Nat) : (m.advanceTo t).world.drawn = m.world.drawn := rfl
theorem runT_wd (p : Program) (m : Machine) (i : Nat) (l : Bool) : m.world.drawn ≤ Stepped.wd (runT p m i l).1 := by
  unfold runT
  simp only
  have h := stepG_wd p (i == 0) (m.gs.swapAt! i { (default : Goroutine) with status := .finished }).1 m.world l
  generalize stepG p (i == 0) (m.gs.swapAt! i { (default : Goroutine) with status := .finished }).1 m.world l = s at h
  cases s with
  | comm g cs b sh w es =>
    have h : m.world.drawn ≤ w.drawn := h
    exact Nat.le_trans h (communicate_wd ..)
  | collect g w es =>
    have h : m.world.drawn ≤ w.drawn := h
    exact Nat.le_trans h (look_wd ..)
  | count g w es =>
    have h : m.world.drawn ≤ w.drawn := h
    simp only
    split <;> exact h
  | coroswitch g c ex w es =>
    have h : m.world.drawn ≤ w.drawn := h
    simp only
    repeat' split
    all_goals first
      | exact h
      | (simp only [endThrow, dieOf] at *; simp_all [Stepped.wd])
  | timer g op w es =>
    have h : m.world.drawn ≤ w.drawn := h
    simp only
    split
    · rename_i e
      exact Nat.le_trans h (Nat.le_of_eq (timerOp_wd e).symm)
    · exact h
    · exact h
    · exact h
  | go g w es => exact h
  | spawn g c w es => exact h
  | alone g on w es => exact h
  | newcoro g c d w es => exact h
  | watch g w es => exact h
  | ended o w es => exact h
def Move.ge (n : Nat) : Move → Prop
  | .goroutine m _ => n ≤ m.world.drawn
  | .machine (.next m) _ => n ≤ m.world.drawn
  | .machine (.ended _ _) _ => True
theorem stepped_ge {n : Nat} {s : Stepped} {ops : Array MemOp} (h : n ≤ Stepped.wd s) : Move.ge n (.machine s ops) := by
  cases s with
  | next m => exact h
  | ended o w => exact True.intro
theorem askOn_ge (p : Program) (m : Machine) : Move.ge m.world.drawn (askOn p m) := by
  unfold askOn
  extract_lets mono rs ds pick
  have hp : ∀ m' : Machine, m.world.drawn ≤ m'.world.drawn → Move.ge m.world.drawn (pick m') := by
    intro m' hm
    simp only [pick]
    split
    · exact True.intro
    · rename_i k w e
      have h1 := Nat.le_trans hm (run_ok e)
      split
      · exact h1
      · split
        · exact True.intro
        · rename_i e2
          exact Nat.le_trans h1 (run_ok e2)
  clear_value pick rs ds mono
  split
  · exact True.intro
  · rename_i k w e
    have h1 := run_ok e
    extract_lets m2
    split
    · exact stepped_ge (Nat.le_trans h1 (serve_wd p m2 _))
    · cases rs with
      | nil =>
        simp only
        split
        · exact h1
        · split
          · exact h1
          · split <;> exact True.intro
      | cons r rs =>
        simp only
        split
        · exact hp m2 h1
        · split
          · exact True.intro
          · rename_i e2
            exact hp _ (Nat.le_trans h1 (run_ok e2))
          · rename_i e2
            have h2 := run_ok e2
            exact Nat.le_trans h1 h2
          · rename_i e2
            have h2 := run_ok e2
            exact hp _ (Nat.le_trans h1 h2)
theorem Move.ge.trans {n k : Nat} {x : Move} (h : n ≤ k) (hx : Move.ge k x) : Move.ge n x := by
  cases x with
  | goroutine m i => exact Nat.le_trans h hx
  | machine s ops => cases s with
    | next m => exact Nat.le_trans h hx
    | ended o w => exact True.intro
theorem ask_ge (p : Program) (m : Machine) : Move.ge m.world.drawn (ask p m) := by
  unfold ask
  split
  · split
    · exact True.intro
    · rename_i w e
      have h1 := run_ok e
      have h2 := look_wd p m.gs m.rest w
      split
      · rename_i m' e2
        rw [e2] at h2
        exact Move.ge.trans (Nat.le_trans h1 h2) (askOn_ge p m')
      · exact stepped_ge (Nat.le_trans h1 h2)
    · rename_i k w e _
      exact Move.ge.trans (run_ok (by assumption)) (askOn_ge p { m with world := w })
  · exact askOn_ge p m
theorem move_ge (p : Program) (m : Machine) : Move.ge m.world.drawn (move p m) := by
  unfold move
  split
  · split
    · exact Nat.le_refl _
    · exact True.intro
  · split
    · split
      · exact Nat.le_refl _
      · exact ask_ge p { m with rest := { m.rest with slice := none } }
    · exact ask_ge p m
theorem step_drawn {p : Program} {m m' : Machine} (h : step p m = .next m') : m.world.drawn ≤ m'.world.drawn := by
  unfold step stepT at h
  have hm := move_ge p m
  split at h
  · rename_i m1 i e
    rw [e] at hm
    have h2 := runT_wd p m1 i true
    rw [h] at h2
    exact Nat.le_trans hm h2
  · rename_i s ops e
    rw [e] at hm
    have h : s = .next m' := h
    subst h
    exact hm
theorem steps_drawn {p : Program} {m m' : Machine} (h : Steps p m m') : m.world.drawn ≤ m'.world.drawn := by
  obtain ⟨n, hn⟩ := h
  induction n generalizing m with
  | zero => simp [runN] at hn; exact hn ▸ Nat.le_refl _
  | succ n ih =>
    simp only [runN] at hn
    cases hs : step p m with
    | next m1 => rw [hs] at hn; exact Nat.le_trans (step_drawn hs) (ih hn)
    | ended o w => rw [hs] at hn; simp at hn
/-- What a call leaves, with its draws. -/
theorem calls_drawn {P : Program} {f : FuncId} {args : Array Value} {w : World} {R : Ending → World → Prop} (h : Calls P f args w R) :
    Calls P f args w fun e w' => R e w' ∧ (e ≠ .outgrown → w.drawn ≤ w'.drawn) := by
  intro cs
  obtain ⟨e, w', fr, hr, hc, hf, hl⟩ := h cs
  refine ⟨e, w', fr, ⟨hr, fun ne => ?_⟩, hc, hf, hl⟩
  cases e with
  | returned v => exact steps_drawn (p := P) hc
  | panicked c => exact steps_drawn (p := P) hc
  | outgrown => exact absurd rfl ne
/-- What leaves old memory alone has laid blocks, and has drawn. -/
theorem grow_of_below {w w' : World} (hb : Go.RowKit.Below w.heap.size w w') (hd : w.drawn ≤ w'.drawn) : ∃ q os', w' = Go.Sort.grow (w.drewN q) os' := by
  refine ⟨w'.drawn - w.drawn, w'.heap.extract w.heap.size w'.heap.size, ?_⟩
  obtain ⟨h1, h2, h3, h4, h5⟩ := hb
  have hh : w'.heap = w.heap ++ w'.heap.extract w.heap.size w'.heap.size := by
    apply Array.ext_getElem?
    intro k
    rw [Array.getElem?_append]
    by_cases hk : k < w.heap.size
    · rw [if_pos hk, h5 k hk]
    · rw [if_neg hk, Array.getElem?_extract]
      split
      · congr 1; omega
      · rw [Array.getElem?_eq_none (by omega)]
  cases w with
  | mk heap tape drawn os output =>
    cases w' with
    | mk heap' tape' drawn' os' output' =>
      simp only at h1 h2 h3 h4 hd hh
      subst h1 h2 h3
      simp only [Go.Sort.grow, World.drewN]
      rw [← hh]
      congr 1
      omega
theorem calls_grow {P : Program} {f : FuncId} {args : Array Value} {w : World} {v : Value} (h : Calls P f args w fun e w' => e = .returned v ∧ Go.RowKit.Below w.heap.size w w') :
    Calls P f args w fun e w' => e = .returned v ∧ ∃ q os', w' = Go.Sort.grow (w.drewN q) os' :=
  (calls_drawn h).mono fun e w' ⟨⟨he, hb⟩, hd⟩ => ⟨he, grow_of_below hb (hd (by rw [he]; simp))⟩
end Go.Proofs.YtcbmdghnlbieeaaGreatDoor
namespace Go.Proofs.YtcbmdghnlbieeaaGreatDoor
open Go.RowKit Go.Sort

/-- A path that the comparison's contract takes. -/
abbrev PathB := {p : Bytes // p.length ≤ 4294967280}
instance : Inhabited PathB := ⟨⟨[], by decide⟩⟩
abbrev encP (x : PathB) : Value := S x.1
abbrev cfP (x y : PathB) : Int := cmpP x.1 y.1

theorem ltPB (x y : PathB) : ltOf cfP x y = ltP (els x.1) (els y.1) := cmpP_lt x.1 y.1
theorem swoP : SWO (ltOf cfP) := by
  refine ⟨fun x => ?_, fun x y z => ?_, fun x y z => ?_⟩
  · rw [ltPB]
    cases h : ltP (els x.1) (els x.1) with
    | false => rfl
    | true => exact absurd rfl (ltP_ne h)
  · rw [ltPB, ltPB, ltPB]; exact ltP_trans
  · rw [ltPB, ltPB, ltPB]
    intro h1 h2
    cases h3 : ltP (els x.1) (els z.1) with
    | false => rfl
    | true =>
      rcases ltP_total (els y.1) (els x.1) with h | h | h
      · rw [ltP_trans h h3] at h2; exact absurd h2 (by simp)
      · rw [h, h3] at h2; exact absurd h2 (by simp)
      · rw [h] at h1; exact absurd h1 (by simp)

theorem ok_sortWorld {I : IH} {w : World} (hw : Ok I w) {g : Nat} (hg : I g = none) (m : Nat) (dk : Array PathB) (os : Array Obj) : Ok I (sortWorld encP w g 0 m dk os) := by
  refine hw.of_block fun b c hb => ?_
  show (w.heap.modify g (onCells _) ++ os)[b]? = _
  have hlt := hw.lt hb
  rw [Array.getElem?_append_left (by simpa using hlt), Array.getElem?_modify, if_neg]
  intro e
  subst e
  rw [hg] at hb
  cases hb

set_option maxRecDepth 100000 in
theorem pn_cmp_lays (I : IH) (hI : Glob I) (w : World) (hw : Ok I w) (g : Nat) (hg : I g = none) (n : Nat) :
    CmpLays1 Tryz.prog 45 #[] encP cfP g 0 n w := fun m os dk _ x y =>
  calls_grow (pn_Compare I hI x.1 y.1 x.2 y.2 _ (ok_sortWorld hw hg m dk os))

theorem liesS_enc {I : IH} {xs : List Value} {l : List Bytes} (h : LiesL tStr I xs l) : xs = l.map fun s => S s := by
  obtain ⟨h1, h2⟩ := h
  have h1' : xs.length = l.length := by rw [h1]; exact Nat.mul_one _
  apply List.ext_getElem?
  intro i
  by_cases hi : i < l.length
  · obtain ⟨cs, k1, k2⟩ := h2 i hi
    have k1 : cs = [S l[i]] := k1
    subst k1
    have k := k2 0 (S l[i]) rfl
    have e : i * tStr.size + 0 = i := Nat.mul_one i
    rw [e] at k
    rw [k, List.getElem?_map, List.getElem?_eq_getElem hi]; rfl
  · rw [List.getElem?_eq_none (by omega), List.getElem?_eq_none (by rw [List.length_map]; omega)]
theorem encS_lies (I : IH) (l : List Bytes) : LiesL tStr I (l.map fun s => S s) l := by
  refine ⟨by rw [List.length_map]; exact (Nat.mul_one _).symm, fun i hi => ⟨[S l[i]], rfl, fun j u hj => ?_⟩⟩
  have hj0 : j = 0 := by have := (List.getElem?_eq_some_iff.1 hj).1; simp at this; omega
  subst hj0
  have e : i * tStr.size + 0 = i := Nat.mul_one i
  rw [e, List.getElem?_map, List.getElem?_eq_getElem hi]
  simpa using hj

def toPB (l : List Bytes) (h : ∀ p ∈ l, p.length ≤ 4294967280) : List PathB := l.attach.map fun p => ⟨p.1, h p.1 p.2⟩
theorem toPB_val (l : List Bytes) (h : ∀ p ∈ l, p.length ≤ 4294967280) : (toPB l h).map (·.1) = l := by
  unfold toPB
  rw [List.map_map]
  exact List.attach_map_subtype_val l

/-- What the sort leaves. -/
def SrtdP (l l' : List Bytes) : Prop := l'.Perm l ∧ l'.Pairwise fun p q => ltP (els q) (els p) = false

set_option maxRecDepth 100000 in
theorem lib_SortPSome (I : IH) (hI : Glob I) (w : World) (hw : Ok I w) (B : Nat) (g cap : Nat) (l : List Bytes) (hg : I g = none) (hs : ∀ p ∈ l, p.length ≤ 4294967280) (hv : OwnS tStr 9 I w B (.slice (some ⟨g, 0, none⟩) l.length cap) l) (hn : l.length ≤ 1000000) :
    Calls Tryz.prog 70 #[.slice (some ⟨g, 0, none⟩) l.length cap, .func (.func 45) #[] #[]] w fun e w' => e = .returned (.tuple #[]) ∧ ∃ l', SrtdP l l' ∧ OwnS tStr 9 I w' B (.slice (some ⟨g, 0, none⟩) l.length cap) l' ∧ w.grownBy w' (some g) := by
  obtain ⟨xs, ⟨hxl, h1⟩, hL⟩ := hv
  have hxe := liesS_enc hL
  rcases h1 with ⟨h0, _⟩ | ⟨gb, cap', cur, e, r1, r2, r3, r4, r5, r6⟩
  · cases h0
  cases e
  obtain ⟨d, hd⟩ : ∃ d, d = toPB l hs := ⟨_, rfl⟩
  have hdv : d.map (·.1) = l := by rw [hd]; exact toPB_val l hs
  have hdl : d.length = l.length := by rw [← hdv, List.length_map]
  have hlt : g < w.heap.size := (Array.getElem?_eq_some_iff.1 r2).1
  have r5' : cur.size = cap := r5.trans (Nat.mul_one _)
  have r6' : cur.toList.take l.length = l.map fun s => S s := by
    rw [← hxe, ← r6]
    congr 1
    exact (Nat.mul_one _).symm
  have hH : Holds encP w g 0 d.toArray := by
    intro j hj
    have hj' : j < d.length := by simpa using hj
    have hj2 : j < l.length := by omega
    have hf := congrArg (fun L => L[j]?) r6'
    simp only [List.getElem?_take_of_lt hj2, List.getElem?_map, List.getElem?_eq_getElem hj2, Array.getElem?_toList, Option.map_some] at hf
    have hx : l[j] = (d[j]).1 := by
      have := congrArg (fun L => L[j]?) hdv
      simp only [List.getElem?_map, List.getElem?_eq_getElem hj', List.getElem?_eq_getElem hj2, Option.map_some, Option.some.injEq] at this
      exact this.symm
    refine ⟨?_, ?_⟩
    · rw [Nat.zero_add, cell_of_row w g j _ _ _ r2, hf, getElem!_pos d.toArray j hj, hx]; rfl
    · rw [Nat.zero_add]; exact frozen_of_row w g j _ _ r2
  have hsrt := Any.slices_SortFunc Tryz.sortS encP (fun _ => rfl) cfP swoP 45 #[] g 0 cap d.toArray w (fun _ _ => rfl) (pn_cmp_lays I hI w hw g hg _) hH hlt (by simp; omega)
  rw [List.size_toArray, hdl] at hsrt
  refine hsrt.mono ?_
  rintro e w' ⟨rfl, d', n, os, hp, hsd, rfl⟩
  obtain ⟨p1, p2, p3⟩ := hp
  have p1' : d'.size = l.length := by rw [← hdl]; simpa using p1
  have hperm : d'.toList.Perm d := by
    have h := p3
    rw [← p1', Array.extract_size] at h
    have e2 : d.toArray.extract 0 d'.size = d.toArray := by rw [p1', ← hdl]; simp
    rw [e2] at h
    simpa using h
  have hlen : (d'.toList.map (·.1)).length = l.length := by rw [List.length_map]; simpa using p1'
  have hblk : (sortWorld encP w g 0 n d' os).heap[g]? = some (.cells (putCells encP 0 d' cur) 9 (0, 0)) := by
    show (w.heap.modify g (onCells _) ++ os)[g]? = _
    rw [Array.getElem?_append_left (by simpa using hlt), Array.getElem?_modify, if_pos rfl, r2]
    rfl
  refine ⟨rfl, d'.toList.map (·.1), ⟨by rw [← hdv]; exact hperm.map _, ?_⟩, ⟨(d'.toList.map (·.1)).map fun s => S s, ⟨?_, .inr ⟨g, cap, _, by rw [hlen], r1, hblk, by rw [hlen]; exact r3, r4, ?_, ?_⟩⟩, encS_lies I _⟩, ?_⟩
  · rw [List.pairwise_map, List.pairwise_iff_getElem]
    intro i j hi hj hij
    have h := hsd i j (Nat.zero_le _) hij (by rw [← p1']; simpa using hj)
    rw [ltPB, getElem!_pos d' j (by simpa using hj), getElem!_pos d' i (by simpa using hi)] at h
    simpa using h
  · rw [List.length_map]; exact (Nat.mul_one _).symm
  · rw [show tStr.size = 1 from rfl, Nat.mul_one]; simp [putCells]; exact r5'
  · rw [show tStr.size = 1 from rfl, Nat.mul_one, hlen]
    apply List.ext_getElem?
    intro q
    by_cases hq : q < l.length
    · have hq2 : q < cur.size := by omega
      have hq3 : q < d'.size := by omega
      rw [List.getElem?_take_of_lt hq, Array.getElem?_toList, Array.getElem?_eq_getElem (by simp [putCells]; exact hq2)]
      simp only [putCells, Array.getElem_mapIdx]
      rw [if_pos ⟨Nat.zero_le _, by omega⟩, Nat.sub_zero, getElem!_pos d' q hq3]
      simp [hq3]
    · rw [List.getElem?_eq_none (by simp; omega), List.getElem?_eq_none (by simp; omega)]
  · refine ⟨rfl, rfl, rfl, ?_, fun k hk hne => ?_⟩
    · show w.heap.size ≤ (w.heap.modify g (onCells _) ++ os).size
      simp
    · show (w.heap.modify g (onCells _) ++ os)[k]? = _
      rw [Array.getElem?_append_left (by simpa using hk), Array.getElem?_modify, if_neg (fun e => hne (by rw [e]))]

theorem lib_SortP (I : IH) (hI : Glob I) (w : World) (hw : Ok I w) (B : Nat) (v : Value) (l : List Bytes) (hg : ∀ b, B ≤ b → I b = none) (hs : ∀ p ∈ l, p.length ≤ 4294967280) (hv : OwnS tStr 9 I w B v l) (hn : l.length ≤ 1000000) :
    Calls Tryz.prog 70 #[v, .func (.func 45) #[] #[]] w fun e w' => e = .returned (.tuple #[]) ∧ ∃ l', SrtdP l l' ∧ OwnS tStr 9 I w' B v l' ∧ w.grownBy w' v.ownBlock := by
  have hv' := hv
  obtain ⟨xs, ⟨hxl, h1⟩, hL⟩ := hv'
  rcases h1 with ⟨rfl, h0⟩ | ⟨gb, cap', cur, rfl, hB, _⟩
  · refine (AnyF.slices_SortFunc_none { Tryz.sortS with } none 0 _ w).mono ?_
    rintro e w' ⟨rfl, rfl⟩
    have hl : l = [] := List.eq_nil_of_length_eq_zero h0
    subst hl
    exact ⟨rfl, [], ⟨List.Perm.refl _, List.Pairwise.nil⟩, OwnS.nil _ _ _ _ _, ⟨rfl, rfl, rfl, Nat.le_refl _, fun _ _ _ => rfl⟩⟩
  · exact lib_SortPSome I hI w hw B gb cap' l (hg gb hB) hs hv hn
end Go.Proofs.YtcbmdghnlbieeaaGreatDoor
namespace Go.Proofs.YtcbmdghnlbieeaaGreatDoor
open Go.RowKit

def dfA (b : List Ent) (x : Ent) : Bool := match getT b x.path with | none => true | some y => !(meaning x y)
def dfB (a : List Ent) (y : Ent) : Bool := (getT a y.path).isNone
theorem diffU_eq (a b : List Ent) : diffU a b = (a.filter (dfA b)).map Ent.path ++ (b.filter (dfB a)).map Ent.path := rfl
theorem dfA_get {b : List Ent} {x y : Ent} {ok : Bool} (h : getE b x.path = (y, ok)) : (ok = false ∧ dfA b x = true) ∨ (ok = true ∧ dfA b x = !(meaning x y)) := by
  unfold getE at h
  unfold dfA
  cases hg : getT b x.path with
  | none => rw [hg] at h; cases h; exact .inl ⟨rfl, rfl⟩
  | some z => rw [hg] at h; cases h; exact .inr ⟨rfl, rfl⟩
theorem dfB_idx {a : List Ent} {y : Ent} : (∃ i : Nat, idxL a (isAt y.path) = i ∧ dfB a y = false) ∨ (idxL a (isAt y.path) = -1 ∧ dfB a y = true) := by
  rcases idxL_cases a (isAt y.path) with ⟨i, hi, e1, e2, _⟩ | ⟨e1, e2⟩
  · refine .inl ⟨i, e1, ?_⟩
    unfold dfB getT
    cases hf : a.find? (fun x => x.path == y.path) with
    | some z => rfl
    | none =>
      rw [List.find?_eq_none] at hf
      exact absurd e2 (hf a[i] (List.getElem_mem hi))
  · refine .inr ⟨e1, ?_⟩
    unfold dfB getT
    cases hf : a.find? (fun x => x.path == y.path) with
    | none => rfl
    | some z =>
      have h1 := List.mem_of_find?_eq_some hf
      have h2 := List.find?_some hf
      rw [List.any_eq_true.2 ⟨z, h1, h2⟩] at e2
      exact absurd e2 (by simp)
theorem filt_succ (f : Ent → Bool) {a : List Ent} {k : Nat} (hk : k < a.length) {x : Ent} (hx : a[k] = x) : ((a.take (k + 1)).filter f).map Ent.path = ((a.take k).filter f).map Ent.path ++ (if f x then [x.path] else []) := by
  rw [List.take_succ_eq_append_getElem hk, hx, List.filter_append]
  cases h : f x <;> simp [h]
theorem ite_yes {α : Type} {T U : List α} {c : Bool} {p : α} (h : T = U ++ (if c = true then [p] else [])) (hc : c = true) : T = U ++ [p] := by rw [h, if_pos hc]
theorem ite_no {α : Type} {T U : List α} {c : Bool} {p : α} (h : T = U ++ (if c = true then [p] else [])) (hc : c = false) : T = U := by rw [h, hc, if_neg (by simp), List.append_nil]
theorem filt_len (f : Ent → Bool) (a : List Ent) (k : Nat) : (((a.take k).filter f).map Ent.path).length ≤ k := by
  rw [List.length_map]
  exact Nat.le_trans (List.length_filter_le _ _) (by simp; omega)

theorem OwnS.cast {α : Type} {T : Ty α} {E : TypeId} {I : IH} {w : World} {B : Nat} {v : Value} {l l' : List α} (h : OwnS T E I w B v l) (e : l = l') : OwnS T E I w B v l' := e ▸ h

set_option maxRecDepth 100000 in
set_option maxHeartbeats 4000000 in
theorem dt_Diff (I : IH) (hI : Glob I) (v1 v2 : Value) (a b : List Ent) (hv1 : RdS tEnt I v1 a) (hv2 : RdS tEnt I v2 b) (hsa : SmlT a) (hsb : SmlT b) (hna : a.length ≤ 1000) (hnb : b.length ≤ 1000) (w : World) (hw : Ok I w) :
    Calls Tryz.prog 31 #[v1, v2] w fun e w' => ∃ l, SrtdP (diffU a b) l ∧ RetS tStr I w l e w' := by
  obtain ⟨ao, cap, rfl, hcap, hcm, _⟩ := id hv1
  obtain ⟨ao2, cap2, rfl, hcap2, hcm2, _⟩ := id hv2
  have Hv1 := Lib.hid hv1
  have Hv2 := Lib.hid hv2
  have HI := Lib.hid hI
  have Hsa := Lib.hid hsa
  have Hsb := Lib.hid hsb
  have Hfr := Lib.hid (fun b (hb : w.heap.size ≤ b) => hw.fresh (b := b) hb)
  clear hv1 hv2 hsa hsb hI
  go_enter Tryz.func31, Tryz.ntmps31
  go_wp2_with fail
  go_loopw [5, 14] (fun s5 s14 wr => ∃ k : Nat, k ≤ a.length ∧ s14 = .int .i64 k ∧ OwnS tStr 9 I wr w.heap.size s5 (((a.take k).filter (dfA b)).map Ent.path) ∧ Below w.heap.size w wr) (fun _ i _ => a.length - (intOf i).toNat)
  case atStart => exact ⟨0, Nat.zero_le _, rfl, OwnS.nil _ _ _ _ _, Below.refl _ _⟩
  case round =>
    obtain ⟨k, hk, rfl, hown, hb⟩ := hrel
    have Hown := Lib.hid hown
    clear hown
    have hwr : Ok I wr := hw.below (Nat.le_refl _) hb
    have hlen := filt_len (dfA b) a k
    by_cases hlt : k < a.length
    · obtain ⟨x, va, vx, bb, off, cap', hlx, hvv, ⟨c0, c1, c2, c3, c4, c5, c6⟩, h1, h2⟩ := entAt Hv1.out hwr k hlt
      cases hvv
      obtain ⟨xa, xc, rfl, _, _, _⟩ := id h1
      obtain ⟨xx, xd, rfl, _, _, _⟩ := id h2
      have Hst := Lib.hid (filt_succ (dfA b) hlt hlx)
      have Hx1 := Lib.hid h1
      have Hx2 := Lib.hid h2
      have Hgt := Lib.hid (fun w hw => dt_Get I _ b Hv2.out x.path w hw)
      clear hlx h1 h2
      obtain ⟨y, ok, hg⟩ : ∃ y ok, getE b x.path = (y, ok) := ⟨_, _, rfl⟩
      have Hg := Lib.hid (dfA_get hg)
      rw [hg] at Hgt
      clear hg
      go_wp2_with fail
      refine (Hgt.out _ (hwr.alloc _)).mono ?_
      rintro e1 w1 ⟨vy, vz, rfl, g1, g2, hb1⟩
      obtain ⟨ya, yc, rfl, _, _, _⟩ := id g1
      obtain ⟨yx, yd, rfl, _, _, _⟩ := id g2
      have HX := Lib.hid ((entB (e := x) rfl hb1).past (.cells #[.int .i64 y.kind, S y.path, .slice ya y.attrs.length yc, S y.target, .int .i64 y.size, S y.digest, .slice yx y.exts.length yd] 26))
      have HY := Lib.hid (entB (n := w1.heap.size) (e := y) (va := .slice ya y.attrs.length yc) (vx := .slice yx y.exts.length yd) (t := 26) rfl (Below.refl _ _))
      have hb1' := (hb.alloc hb.size (.cells #[.int .i64 x.kind, S x.path, .slice xa x.attrs.length xc, S x.target, .int .i64 x.size, S x.digest, .slice xx x.exts.length xd] 26)).trans (hb1.mono (by have := hb.size; simp; omega))
      have hb2 := hb1'.alloc hb1'.size (.cells #[.int .i64 y.kind, S y.path, .slice ya y.attrs.length yc, S y.target, .int .i64 y.size, S y.digest, .slice yx y.exts.length yd] 26)
      have hok2 : Ok I (w1.alloc (.cells #[.int .i64 y.kind, S y.path, .slice ya y.attrs.length yc, S y.target, .int .i64 y.size, S y.digest, .slice yx y.exts.length yd] 26)) := ((hwr.alloc _).below (Nat.le_refl _) hb1).alloc _
      have Hown2 := Lib.hid (((Hown.out.alloc (.cells #[.int .i64 x.kind, S x.path, .slice xa x.attrs.length xc, S x.target, .int .i64 x.size, S x.digest, .slice xx x.exts.length xd] 26)).below hb1).alloc (.cells #[.int .i64 y.kind, S y.path, .slice ya y.attrs.length yc, S y.target, .int .i64 y.size, S y.digest, .slice yx y.exts.length yd] 26))
      have Hsm := Lib.hid (fun w hw => dt_same I x y _ _ _ _ Hx1.out Hx2.out g1 g2 w hw)
      clear hb1 hb1' g1 g2 c0 c1 c2 c3 c4 c5 c6 Hown Hgt
      obtain ⟨x0, x1, x2, x3, x4, x5, x6⟩ := HX.out
      obtain ⟨y0, y1, y2, y3, y4, y5, y6⟩ := HY.out
      have hgc := Hg.out
      rcases hgc with ⟨rfl, hd⟩ | ⟨rfl, hd⟩
      · have Hn := Lib.hid (ite_yes Hst.out hd)
        clear hd
        go_wp2_with (at_builtin; refine wpList_append1 (w0 := w1.alloc (.cells #[.int .i64 y.kind, S y.path, .slice ya y.attrs.length yc, S y.target, .int .i64 y.size, S y.digest, .slice yx y.exts.length yd] 26)) str_elem rfl _ _ rfl _ _ _ rfl Hown2.out x.path [S x.path] _ (by simp [Act.eval]) rfl (by omega) (by omega) (Below.size hb2) ?_)
        intro v9 w9 hown9 hg9
        have hb9 := Below.own hb2 hg9 Hown2.out (Nat.le_refl _) (Below.size hb2)
        go_wp2
        go_roundw
        case rel => exact ⟨k + 1, by omega, by go_num, (hown9.cast Hn.out.symm), hb9⟩
        case measure => simp [intOf]; omega
      · generalize meaning x y = m at Hsm hd
        go_wp2_with fail
        refine (Hsm.out _ hok2).mono ?_
        rintro e3 w3 ⟨rfl, hb3⟩
        have hb3' := hb2.trans (hb3.mono hb2.size)
        have Hown3 := Lib.hid (Hown2.out.below hb3)
        clear x0 x1 x2 x3 x4 x5 x6 y0 y1 y2 y3 y4 y5 y6
        obtain ⟨x0, x1, x2, x3, x4, x5, x6⟩ := HX.out.thru hb3
        clear hb3 hb2 Hown2
        cases m
        · have Hn := Lib.hid (ite_yes Hst.out hd)
          clear hd
          go_wp2_with (at_builtin; refine wpList_append1 (w0 := w3) str_elem rfl _ _ rfl _ _ _ rfl Hown3.out x.path [S x.path] _ rfl rfl (by omega) (by omega) (Below.size hb3') ?_)
          intro v9 w9 hown9 hg9
          have hb9 := Below.own hb3' hg9 Hown3.out (Nat.le_refl _) (Below.size hb3')
          go_wp2
          go_roundw
          case rel => exact ⟨k + 1, by omega, by go_num, (hown9.cast Hn.out.symm), hb9⟩
          case measure => simp [intOf]; omega
        · have Hn := Lib.hid (ite_no Hst.out hd)
          clear hd
          go_wp2
          go_roundw
          case rel => exact ⟨k + 1, by omega, by go_num, (by rw [Hn.out]; exact Hown3.out), hb3'⟩
          case measure => simp [intOf]; omega
    · have hta : a.take k = a := List.take_of_length_le (by omega)
      rw [hta] at Hown hlen
      clear hta
      obtain ⟨L, hL⟩ : ∃ L, (a.filter (dfA b)).map Ent.path = L := ⟨_, rfl⟩
      have HL := Lib.hid hL
      rw [hL] at Hown hlen
      have Hst := Lib.hid Hown.out
      have Hbl := Lib.hid hb
      clear hL
      go_wp2_with fail
      go_loopw [5, 41] (fun s5 s41 wr => ∃ j : Nat, j ≤ b.length ∧ s41 = .int .i64 j ∧ OwnS tStr 9 I wr w.heap.size s5 (L ++ ((b.take j).filter (dfB a)).map Ent.path) ∧ Below w.heap.size w wr) (fun _ i _ => b.length - (intOf i).toNat)
      case atStart => exact ⟨0, Nat.zero_le _, rfl, (by simpa using Hst.out), Hbl.out⟩
      case round =>
        clear Hst Hbl
        obtain ⟨j, hj, rfl, hown, hb⟩ := hrel
        have Hown := Lib.hid hown
        clear hown
        have hwr' : Ok I wr := hw.below (Nat.le_refl _) hb
        have hlen2 := filt_len (dfB a) b j
        by_cases hlt2 : j < b.length
        · obtain ⟨y, va, vy, bb, off, cap', hly, hvv, ⟨c0, c1, c2, c3, c4, c5, c6⟩, h1, h2⟩ := entAt Hv2.out hwr' j hlt2
          cases hvv
          obtain ⟨ya, yc, rfl, _, _, _⟩ := id h1
          obtain ⟨yx, yd, rfl, _, _, _⟩ := id h2
          have Hst := Lib.hid (filt_succ (dfB a) hlt2 hly)
          have Hfi := Lib.hid (fun w hw => dt_find I _ a Hv1.out y.path w hw)
          have Hq := Lib.hid (dfB_idx (a := a) (y := y))
          clear hly h1 h2
          generalize idxL a (isAt y.path) = q at Hfi Hq
          go_wp2_with fail
          refine (Hfi.out _ (hwr'.alloc _)).mono ?_
          rintro e1 w1 ⟨rfl, hb1⟩
          have HY := Lib.hid (entB (e := y) rfl hb1)
          have hb1' := (hb.alloc hb.size (.cells #[.int .i64 y.kind, S y.path, .slice ya y.attrs.length yc, S y.target, .int .i64 y.size, S y.digest, .slice yx y.exts.length yd] 26)).trans (hb1.mono (by have := hb.size; simp; omega))
          have Hown1 := Lib.hid ((Hown.out.alloc (.cells #[.int .i64 y.kind, S y.path, .slice ya y.attrs.length yc, S y.target, .int .i64 y.size, S y.digest, .slice yx y.exts.length yd] 26)).below hb1)
          clear hb1 c0 c1 c2 c3 c4 c5 c6 Hown hb
          obtain ⟨y0, y1, y2, y3, y4, y5, y6⟩ := HY.out
          have hgc := Hq.out
          have hll : (L ++ ((b.take j).filter (dfB a)).map Ent.path).length ≤ 2000 := by rw [List.length_append]; omega
          rcases hgc with ⟨i, rfl, hd⟩ | ⟨rfl, hd⟩
          · have Hn := Lib.hid (ite_no Hst.out hd)
            have hni : decide ((i : Int) < 0) = false := decide_eq_false (by omega)
            clear hd
            go_wp2
            go_roundw
            case rel => exact ⟨j + 1, by omega, by go_num, (by rw [Hn.out]; exact Hown1.out), hb1'⟩
            case measure => simp [intOf]; omega
          · have Hn := Lib.hid (ite_yes Hst.out hd)
            clear hd
            go_wp2_with (at_builtin; refine wpList_append1 (w0 := w1) str_elem rfl _ _ rfl _ _ _ rfl Hown1.out y.path [S y.path] _ rfl rfl (by omega) (by omega) (Below.size hb1') ?_)
            intro v9 w9 hown9 hg9
            have hb9 := Below.own hb1' hg9 Hown1.out (Nat.le_refl _) (Below.size hb1')
            go_wp2
            go_roundw
            case rel => exact ⟨j + 1, by omega, by go_num, (hown9.cast (by simp [Hn.out])), hb9⟩
            case measure => simp [intOf]; omega
        · have htb : b.take j = b := List.take_of_length_le (by omega)
          rw [htb] at Hown hlen2
          have hpl : ∀ p ∈ L ++ (b.filter (dfB a)).map Ent.path, p.length ≤ 4294967280 := by
            intro p hp
            rw [← HL.out] at hp
            rcases List.mem_append.1 hp with h | h
            · obtain ⟨z, hz, rfl⟩ := List.mem_map.1 h
              exact (Hsa.out z (List.mem_filter.1 hz).1).1
            · obtain ⟨z, hz, rfl⟩ := List.mem_map.1 h
              exact (Hsb.out z (List.mem_filter.1 hz).1).1
          have Hso := Lib.hid (lib_SortP I HI.out wr hwr' w.heap.size _ _ Hfr.out hpl Hown.out (by rw [List.length_append]; omega))
          have Hdu := Lib.hid (show L ++ (b.filter (dfB a)).map Ent.path = diffU a b by rw [diffU_eq, HL.out])
          clear hpl htb
          go_wp2_with fail
          refine Hso.out.mono ?_
          rintro e3 w3 ⟨rfl, l, hsl, hown3, hg3⟩
          have hb3 := Below.own hb hg3 Hown.out (Nat.le_refl _) (Below.size hb)
          have hok3 : Ok I w3 := hw.below (Nat.le_refl _) hb3
          rw [Hdu.out] at hsl
          have Hsl := Lib.hid hsl
          have Hown3 := Lib.hid hown3
          clear hsl hown3 hg3 Hso
          go_wp2
          go_ret
          obtain ⟨I', hI1, hI2, hI3, _⟩ := Hown3.out.freeze hok3 Hfr.out
          exact ⟨l, Hsl.out, _, I', rfl, hb3, hI1, hI2, hI3⟩
end Go.Proofs.YtcbmdghnlbieeaaGreatDoor
