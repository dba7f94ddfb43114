/-
  Walks of the reference's layer 37: Get, dir.
  Walks of the reference's layers 36 and 37: Equal, dir, Same.
  Walks of the reference's layer 37: Same, Check, Right.
  Walks of the reference's layer 37: Check, Right.
-/
import Derived.Test.YtcbmdghnlbieeaaGreatDoorZD
namespace Go.Proofs.YtcbmdghnlbieeaaGreatDoor
open Go.RowKit

theorem below_setRow {B : Nat} {w w' : World} {g : Nat} (h : Below B w w') (hg : B ≤ g) (cs : Array Value) : Below B w (w'.setRow g cs) :=
  ⟨h.os, h.tape, h.output, by simpa using h.size, fun k hk => by rw [setRow_other _ _ _ _ (by omega)]; exact h.block k hk⟩

def zeroE : Ent := ⟨0, [], [], [], 0, [], []⟩
/-- What Get returns. -/
def getE (t : List Ent) (p : Bytes) : Ent × Bool := match getT t p with | some x => (x, true) | none => (zeroE, false)
def RetG (I : IH) (w : World) (x : Ent × Bool) (e : Ending) (w' : World) : Prop :=
  ∃ va vx, e = .returned (.tuple #[entV x.1 va vx, .bool x.2]) ∧ RdS tAt I va x.1.attrs ∧ RdS tXt I vx x.1.exts ∧ Below w.heap.size w w'

abbrev entRow (x : Ent) (va vx : Value) : Array Value := #[.int .i64 x.kind, S x.path, va, S x.target, .int .i64 x.size, S x.digest, vx]
/-- The cells of the zero entry. -/
abbrev zeroRow : Array Value := #[.int .i64 0, .string ⟨#[]⟩, .slice none 0 0, .string ⟨#[]⟩, .int .i64 0, .string ⟨#[]⟩, .slice none 0 0]
theorem entRow_one {x : Ent} {va vx : Value} {I : IH} (h1 : RdS tAt I va x.attrs) (h2 : RdS tXt I vx x.exts) : (entRow x va vx).all (·.oneCell') = true := by
  have e1 := h1.one
  have e2 := h2.one
  simp [entRow, e1, e2]
  exact ⟨rfl, rfl, rfl, rfl, rfl⟩

set_option maxRecDepth 100000 in
set_option maxHeartbeats 1000000 in
theorem ref37_Get (I : IH) (v : Value) (t : List Ent) (hv : RdS tEnt I v t) (p : Bytes) (w : World) (hw : Ok I w) :
    Calls Tryz.prog 24 #[v, S p] w (RetG I w (getE t p)) := by
  have hlen := hv.len_le
  obtain ⟨ao, cap, rfl, hcap, hcm, _⟩ := id hv
  have Hv := Lib.hid hv; clear hv
  have hi7 : (Tryz.prog.info? 26).map (·.size) = some 7 := by kernel_rfl
  have Hz := Lib.hid (heap_alloc_new w (.cells zeroRow 26))
  go_enter Tryz.func24, Tryz.ntmps24
  go_wp2_with fail
  go_loopw [10] (fun s10 wr => ∃ k : Nat, k ≤ t.length ∧ s10 = .int .i64 k ∧ getT t p = getT (t.drop k) p ∧ Below w.heap.size w wr ∧ w.heap.size < wr.heap.size ∧ wr.heap[w.heap.size]? = some (.cells zeroRow 26 (0, 0))) (fun i _ => t.length - (intOf i).toNat)
  case atStart => exact ⟨0, Nat.zero_le _, rfl, rfl, (Below.refl _ _).alloc (Nat.le_refl _) _, by simp, Hz.out⟩
  case round =>
    clear Hz
    obtain ⟨k, hk, rfl, hr, hb, hsz, hz⟩ := hrel
    have Hr := Lib.hid hr
    have Hz := Lib.hid hz
    clear hr hz
    have hwr : Ok I wr := hw.below (Nat.le_refl _) hb
    by_cases hlt : k < t.length
    · obtain ⟨x, va, vx, b, off, cap', hlx, hvv, ⟨c0, c1, c2, c3, c4, c5, c6⟩, h1, h2⟩ := entAt Hv.out hwr k hlt
      cases hvv
      have Hst := Lib.hid (show getT t p = if (x.path == p) then some x else getT (t.drop (k + 1)) p by
        rw [Hr.out, List.drop_eq_getElem_cons hlt, hlx, getT, List.find?_cons]; cases (x.path == p) <;> rfl)
      obtain ⟨aa, ca, rfl, _, _, _⟩ := id h1
      obtain ⟨ax, cx, rfl, _, _, _⟩ := id h2
      have H1 := Lib.hid h1
      have H2 := Lib.hid h2
      clear hlx h1 h2
      cases he : (x.path == p)
      · have Hn := Lib.hid (show getT t p = getT (t.drop (k + 1)) p by rw [Hst.out, he]; rfl)
        go_wp2
        go_roundw
        case rel => exact ⟨k + 1, by omega, by go_num, Hn.out, hb.alloc hb.size _, by simp; omega, (Below.heap_alloc wr _ _ hsz).trans Hz.out⟩
        case measure => simp [intOf]; omega
      · have Hn := Lib.hid (show getE t p = (x, true) by rw [getE, Hst.out, he]; rfl)
        have hz1 : (wr.alloc (.cells (entRow x (.slice aa x.attrs.length ca) (.slice ax x.exts.length cx)) 26)).heap[w.heap.size]? = some (.cells zeroRow 26 (0, 0)) := (Below.heap_alloc wr _ _ hsz).trans Hz.out
        have Hz1 := Lib.hid hz1
        have hone := entRow_one H1.out H2.out
        clear hz1
        go_wp2_with (refine wpList_store_row rfl 26 _ _ rfl w.heap.size (entRow x (.slice aa x.attrs.length ca) (.slice ax x.exts.length cx)) rfl rfl 26 zeroRow Hz1.out hi7 rfl hone ?_)
        try simp only [Exit.inBlock, Exit.then]
        refine bodyPost_ret (v := .tuple #[entV x (.slice aa x.attrs.length ca) (.slice ax x.exts.length cx), .bool true]) ?_ rfl ?_
        · rw [results_cell_tmp rfl]
          simp [asAddr, run_loadVar_row _ w.heap.size 26 26 (entRow x (.slice aa x.attrs.length ca) (.slice ax x.exts.length cx)) (0, 0) _ (setRow_heap _ _ _ _ _ _ Hz1.out) Tryz.underlying26 rfl hi7]
        · rw [Hn.out]
          exact ⟨_, _, rfl, H1.out, H2.out, below_setRow (hb.alloc hb.size _) (Nat.le_refl _) _⟩
    · have Hn := Lib.hid (show getE t p = (zeroE, false) by rw [getE, Hr.out, List.drop_of_length_le (by omega)]; rfl)
      have hzo : zeroRow.all (·.oneCell') = true := by simp [Value.oneCell']
      go_wp2_with (refine wpList_store_row rfl 26 _ _ rfl w.heap.size zeroRow rfl rfl 26 zeroRow Hz.out hi7 rfl hzo ?_)
      try simp only [Exit.inBlock, Exit.then]
      refine bodyPost_ret (v := .tuple #[.agg zeroRow, .bool false]) ?_ rfl ?_
      · rw [results_cell_tmp rfl]
        simp [asAddr, run_loadVar_row _ w.heap.size 26 26 zeroRow (0, 0) _ (setRow_heap _ _ _ _ _ _ Hz.out) Tryz.underlying26 rfl hi7]
      · rw [Hn.out]
        exact ⟨.slice none 0 0, .slice none 0 0, rfl, RdS.nil _ _, RdS.nil _ _, below_setRow hb (Nat.le_refl _) _⟩
end Go.Proofs.YtcbmdghnlbieeaaGreatDoor
namespace Go.Proofs.YtcbmdghnlbieeaaGreatDoor
open Go.RowKit

theorem dirErr_get (t : List Ent) (p : Bytes) (hp : p ≠ []) : dirErr t p = if (getE t p).2 = false then 9 else if (getE t p).1.kind ≠ 2 then 10 else 0 := by
  unfold dirErr getE
  rw [if_neg hp]
  cases getT t p <;> simp

set_option maxRecDepth 100000 in
set_option maxHeartbeats 400000 in
theorem ref37_dir (I : IH) (v : Value) (t : List Ent) (hv : RdS tEnt I v t) (p : Bytes) (w : World) (hw : Ok I w) :
    Calls Tryz.prog 49 #[v, S p] w fun e w' => e = .returned (.int .i64 (dirErr t p)) ∧ Below w.heap.size w w' := by
  obtain ⟨ao, cap, rfl, hcap, hcm, _⟩ := id hv
  have Hv := Lib.hid hv; clear hv
  by_cases hp : p = []
  · obtain ⟨p1, p2, p3, p4⟩ := eq_emp hp
    have Hn := Lib.hid (show dirErr t p = 0 by rw [dirErr, if_pos hp])
    clear hp
    go_enter Tryz.func49, Tryz.ntmps49
    go_wp2
    go_ret
    exact ⟨ret_i Hn.out.symm, Below.refl _ _⟩
  · obtain ⟨p1, p2, p3, p4⟩ := ne_emp hp
    have Hn := Lib.hid (dirErr_get t p hp)
    have Hg := Lib.hid (ref37_Get I _ t Hv.out p w hw)
    clear hp
    generalize getE t p = g at Hn Hg
    obtain ⟨x, b⟩ := g
    go_enter Tryz.func49, Tryz.ntmps49
    go_wp2_with fail
    refine Hg.out.mono ?_
    rintro e w1 ⟨va, vx, rfl, h1, h2, hb1⟩
    obtain ⟨aa, ca, rfl, _, _, _⟩ := id h1
    obtain ⟨ax, cx, rfl, _, _, _⟩ := id h2
    clear h1 h2
    cases b
    · have Hn2 := Lib.hid (show dirErr t p = 9 by rw [Hn.out]; rfl)
      go_wp2
      go_ret
      exact ⟨ret_i Hn2.out.symm, hb1.alloc hb1.size _⟩
    · by_cases hk : x.kind = 2
      · have k1 : ((x.kind : Int) != 2) = false := by simpa using hk
        have Hn2 := Lib.hid (show dirErr t p = 0 by rw [Hn.out]; simp [hk])
        clear hk
        go_wp2
        go_ret
        exact ⟨ret_i Hn2.out.symm, hb1.alloc hb1.size _⟩
      · have k1 : ((x.kind : Int) != 2) = true := by simpa using hk
        have Hn2 := Lib.hid (show dirErr t p = 10 by rw [Hn.out]; simp [hk])
        clear hk
        go_wp2
        go_ret
        exact ⟨ret_i Hn2.out.symm, hb1.alloc hb1.size _⟩

theorem run_neq_xt (a b : Xt) (W : World) : (binOp .neq 69 (.agg #[.int .i64 a.s, .int .i64 a.o, .int .i64 a.n]) (.agg #[.int .i64 b.s, .int .i64 b.o, .int .i64 b.n])).run Tryz.prog W = .ok (.bool (!decide (a = b))) W := by
  rw [run_neq_of _ _ [(3, 0, false), (3, 1, false), (3, 2, false)] W (by kernel_rfl) (by kernel_rfl) (by kernel_rfl)]
  obtain ⟨a1, a2, a3⟩ := a
  obtain ⟨b1, b2, b3⟩ := b
  simp [go_sem]
  by_cases h1 : a1 = b1 <;> by_cases h2 : a2 = b2 <;> by_cases h3 : a3 = b3 <;> simp [h1, h2, h3]

set_option maxRecDepth 100000 in
set_option maxHeartbeats 1000000 in
theorem ref36_Equal (I : IH) (a b : Ent) (va vx vb vy : Value) (hva : RdS tAt I va a.attrs) (hvx : RdS tXt I vx a.exts) (hvb : RdS tAt I vb b.attrs) (hvy : RdS tXt I vy b.exts) (w : World) (hw : Ok I w) :
    Calls Tryz.prog 23 #[entV a va vx, entV b vb vy] w fun e w' => e = .returned (.bool (decide (a = b))) ∧ Below w.heap.size w w' := by
  have hl1 := hvx.len_le
  have hl2 := hvy.len_le
  obtain ⟨aa, ca, rfl, _, _, _⟩ := id hva
  obtain ⟨ax, cx, rfl, hcx, hcxm, _⟩ := id hvx
  obtain ⟨aa2, ca2, rfl, _, _, _⟩ := id hvb
  obtain ⟨ax2, cx2, rfl, hcy, hcym, _⟩ := id hvy
  have Hsm := Lib.hid (fun w hw => ref32_Same I _ _ a.attrs b.attrs hva hvb w hw)
  have Hvx := Lib.hid hvx
  have Hvy := Lib.hid hvy
  clear hva hvx hvb hvy
  by_cases h1 : a.kind = b.kind
  case neg =>
    have k1 : ((a.kind : Int) != b.kind) = true := by simpa using h1
    have Hn := Lib.hid (show decide (a = b) = false from decide_eq_false fun e => h1 (by rw [e]))
    clear h1
    go_enter Tryz.func23, Tryz.ntmps23
    go_wp2
    go_ret
    exact ⟨ret_b Hn.out.symm, ((Below.refl _ _).alloc (Nat.le_refl _) _).alloc (by simp) _⟩
  have k1 : ((a.kind : Int) != b.kind) = false := by simpa using h1
  by_cases h2 : a.path = b.path
  case neg =>
    have k2 : (a.path != b.path) = true := by simpa using h2
    have k2' : (a.path == b.path) = false := by simpa using h2
    have Hn := Lib.hid (show decide (a = b) = false from decide_eq_false fun e => h2 (by rw [e]))
    clear h2 h1
    go_enter Tryz.func23, Tryz.ntmps23
    go_wp2
    go_ret
    exact ⟨ret_b Hn.out.symm, ((Below.refl _ _).alloc (Nat.le_refl _) _).alloc (by simp) _⟩
  have k2 : (a.path != b.path) = false := by simpa using h2
  have k2' : (a.path == b.path) = true := by simpa using h2
  by_cases h3 : a.attrs = b.attrs
  case neg =>
    have Hn := Lib.hid (show decide (a = b) = false from decide_eq_false fun e => h3 (by rw [e]))
    rw [decide_eq_false h3] at Hsm
    clear h3 h2 h1
    go_enter Tryz.func23, Tryz.ntmps23
    go_wp2_with fail
    refine (Hsm.out _ ((hw.alloc _).alloc _)).mono ?_
    rintro e w1 ⟨rfl, hb1⟩
    have hb1' : Below w.heap.size w w1 := (((Below.refl _ _).alloc (Nat.le_refl _) _).alloc (by simp) _).trans (hb1.mono (by simp; omega))
    have hB := entB (n := w.heap.size + 1) (e := b) (by simp) hb1
    have hA := (EntB.past (entB (e := a) (t := 26) rfl (Below.refl _ _)) (.cells #[.int .i64 b.kind, S b.path, .slice aa2 b.attrs.length ca2, S b.target, .int .i64 b.size, S b.digest, .slice ax2 b.exts.length cx2] 26)).thru hb1
    obtain ⟨c0, c1, c2, c3, c4, c5, c6⟩ := hA
    obtain ⟨d0, d1, d2, d3, d4, d5, d6⟩ := hB
    clear hb1
    go_wp2
    go_ret
    exact ⟨ret_b Hn.out.symm, hb1'⟩
  rw [decide_eq_true h3] at Hsm
  by_cases h4 : a.target = b.target
  case neg =>
    have k4 : (a.target != b.target) = true := by simpa using h4
    have k4' : (a.target == b.target) = false := by simpa using h4
    have Hn := Lib.hid (show decide (a = b) = false from decide_eq_false fun e => h4 (by rw [e]))
    clear h4 h3 h2 h1
    go_enter Tryz.func23, Tryz.ntmps23
    go_wp2_with fail
    refine (Hsm.out _ ((hw.alloc _).alloc _)).mono ?_
    rintro e w1 ⟨rfl, hb1⟩
    have hb1' : Below w.heap.size w w1 := (((Below.refl _ _).alloc (Nat.le_refl _) _).alloc (by simp) _).trans (hb1.mono (by simp; omega))
    have hB := entB (n := w.heap.size + 1) (e := b) (by simp) hb1
    have hA := (EntB.past (entB (e := a) (t := 26) rfl (Below.refl _ _)) (.cells #[.int .i64 b.kind, S b.path, .slice aa2 b.attrs.length ca2, S b.target, .int .i64 b.size, S b.digest, .slice ax2 b.exts.length cx2] 26)).thru hb1
    obtain ⟨c0, c1, c2, c3, c4, c5, c6⟩ := hA
    obtain ⟨d0, d1, d2, d3, d4, d5, d6⟩ := hB
    clear hb1
    go_wp2
    go_ret
    exact ⟨ret_b Hn.out.symm, hb1'⟩
  have k4 : (a.target != b.target) = false := by simpa using h4
  have k4' : (a.target == b.target) = true := by simpa using h4
  by_cases h5 : a.size = b.size
  case neg =>
    have k5 : ((a.size : Int) != b.size) = true := by simpa using h5
    have Hn := Lib.hid (show decide (a = b) = false from decide_eq_false fun e => h5 (by rw [e]))
    clear h5 h4 h3 h2 h1
    go_enter Tryz.func23, Tryz.ntmps23
    go_wp2_with fail
    refine (Hsm.out _ ((hw.alloc _).alloc _)).mono ?_
    rintro e w1 ⟨rfl, hb1⟩
    have hb1' : Below w.heap.size w w1 := (((Below.refl _ _).alloc (Nat.le_refl _) _).alloc (by simp) _).trans (hb1.mono (by simp; omega))
    have hB := entB (n := w.heap.size + 1) (e := b) (by simp) hb1
    have hA := (EntB.past (entB (e := a) (t := 26) rfl (Below.refl _ _)) (.cells #[.int .i64 b.kind, S b.path, .slice aa2 b.attrs.length ca2, S b.target, .int .i64 b.size, S b.digest, .slice ax2 b.exts.length cx2] 26)).thru hb1
    obtain ⟨c0, c1, c2, c3, c4, c5, c6⟩ := hA
    obtain ⟨d0, d1, d2, d3, d4, d5, d6⟩ := hB
    clear hb1
    go_wp2
    go_ret
    exact ⟨ret_b Hn.out.symm, hb1'⟩
  have k5 : ((a.size : Int) != b.size) = false := by simpa using h5
  by_cases h6 : a.digest = b.digest
  case neg =>
    have k6 : (a.digest != b.digest) = true := by simpa using h6
    have k6' : (a.digest == b.digest) = false := by simpa using h6
    have Hn := Lib.hid (show decide (a = b) = false from decide_eq_false fun e => h6 (by rw [e]))
    clear h6 h5 h4 h3 h2 h1
    go_enter Tryz.func23, Tryz.ntmps23
    go_wp2_with fail
    refine (Hsm.out _ ((hw.alloc _).alloc _)).mono ?_
    rintro e w1 ⟨rfl, hb1⟩
    have hb1' : Below w.heap.size w w1 := (((Below.refl _ _).alloc (Nat.le_refl _) _).alloc (by simp) _).trans (hb1.mono (by simp; omega))
    have hB := entB (n := w.heap.size + 1) (e := b) (by simp) hb1
    have hA := (EntB.past (entB (e := a) (t := 26) rfl (Below.refl _ _)) (.cells #[.int .i64 b.kind, S b.path, .slice aa2 b.attrs.length ca2, S b.target, .int .i64 b.size, S b.digest, .slice ax2 b.exts.length cx2] 26)).thru hb1
    obtain ⟨c0, c1, c2, c3, c4, c5, c6⟩ := hA
    obtain ⟨d0, d1, d2, d3, d4, d5, d6⟩ := hB
    clear hb1
    go_wp2
    go_ret
    exact ⟨ret_b Hn.out.symm, hb1'⟩
  have k6 : (a.digest != b.digest) = false := by simpa using h6
  have k6' : (a.digest == b.digest) = true := by simpa using h6
  have Hab := Lib.hid (show decide (a = b) = decide (a.exts = b.exts) by
    rw [decide_eq_decide]
    constructor
    · intro e; rw [e]
    · intro e
      cases a
      cases b
      simp_all)
  clear h6 h5 h4 h3 h2 h1
  by_cases hll : a.exts.length = b.exts.length
  case neg =>
    have k7 : ((a.exts.length : Int) != (b.exts.length : Int)) = true := by rw [bne_iff_ne]; omega
    have Hn := Lib.hid (show decide (a = b) = false by rw [Hab.out, decide_eq_false]; intro e; exact hll (by rw [e]))
    clear hll
    go_enter Tryz.func23, Tryz.ntmps23
    go_wp2_with fail
    refine (Hsm.out _ ((hw.alloc _).alloc _)).mono ?_
    rintro e w1 ⟨rfl, hb1⟩
    have hb1' : Below w.heap.size w w1 := (((Below.refl _ _).alloc (Nat.le_refl _) _).alloc (by simp) _).trans (hb1.mono (by simp; omega))
    have hB := entB (n := w.heap.size + 1) (e := b) (by simp) hb1
    have hA := (EntB.past (entB (e := a) (t := 26) rfl (Below.refl _ _)) (.cells #[.int .i64 b.kind, S b.path, .slice aa2 b.attrs.length ca2, S b.target, .int .i64 b.size, S b.digest, .slice ax2 b.exts.length cx2] 26)).thru hb1
    obtain ⟨c0, c1, c2, c3, c4, c5, c6⟩ := hA
    obtain ⟨d0, d1, d2, d3, d4, d5, d6⟩ := hB
    clear hb1
    go_wp2
    go_ret
    exact ⟨ret_b Hn.out.symm, hb1'⟩
  have k7 : ((a.exts.length : Int) != (b.exts.length : Int)) = false := by rw [hll]; simp
  have Hll := Lib.hid hll
  clear hll
  go_enter Tryz.func23, Tryz.ntmps23
  go_wp2_with fail
  refine (Hsm.out _ ((hw.alloc _).alloc _)).mono ?_
  rintro e w1 ⟨rfl, hb1⟩
  have hb1' : Below w.heap.size w w1 := (((Below.refl _ _).alloc (Nat.le_refl _) _).alloc (by simp) _).trans (hb1.mono (by simp; omega))
  have hB := entB (n := w.heap.size + 1) (e := b) (by simp) hb1
  have hA := (EntB.past (entB (e := a) (t := 26) rfl (Below.refl _ _)) (.cells #[.int .i64 b.kind, S b.path, .slice aa2 b.attrs.length ca2, S b.target, .int .i64 b.size, S b.digest, .slice ax2 b.exts.length cx2] 26)).thru hb1
  obtain ⟨c0, c1, c2, c3, c4, c5, c6⟩ := hA
  obtain ⟨d0, d1, d2, d3, d4, d5, d6⟩ := hB
  clear hb1
  have HA := Lib.hid (⟨c0, c1, c2, c3, c4, c5, c6⟩ : EntB w1 w.heap.size a _ _)
  have HB := Lib.hid (⟨d0, d1, d2, d3, d4, d5, d6⟩ : EntB w1 _ b _ _)
  have hok1 : Ok I w1 := hw.below (Nat.le_refl _) hb1'
  go_wp2_with fail
  clear c0 c1 c2 c3 c4 c5 c6 d0 d1 d2 d3 d4 d5 d6
  go_loopw [5] (fun s5 wr => ∃ k : Nat, k ≤ a.exts.length ∧ s5 = .int .i64 k ∧ a.exts.take k = b.exts.take k ∧ Below w1.heap.size w1 wr) (fun i _ => a.exts.length - (intOf i).toNat)
  case atStart => exact ⟨0, Nat.zero_le _, rfl, rfl, Below.refl _ _⟩
  case round =>
    obtain ⟨k, hk, rfl, hr, hb⟩ := hrel
    have Hr := Lib.hid hr; clear hr
    have hwr : Ok I wr := hok1.below (Nat.le_refl _) hb
    have c6 := (HA.out.thru hb).c6
    have d6 := (HB.out.thru hb).c6
    by_cases hlt : k < a.exts.length
    · have hlt2 : k < b.exts.length := by rw [← Hll.out]; exact hlt
      obtain ⟨p, bb, off, cap', hp, hvv, p0, p1, p2⟩ := xtAt Hvx.out hwr k hlt
      cases hvv
      obtain ⟨q, b', off', cap'', hq, hvv, q0, q1, q2⟩ := xtAt Hvy.out hwr k hlt2
      cases hvv
      have Hp := Lib.hid hp
      have Hq := Lib.hid hq
      have x0 := cell_regrown p0
      have x1 := cell_regrown p1
      have x2 := cell_regrown p2
      have y0 := cell_regrown q0
      have y1 := cell_regrown q1
      have y2 := cell_regrown q2
      have e6 := cell_regrown c6
      have f6 := cell_regrown d6
      clear hp hq
      have hneq := run_neq_xt p q
      by_cases hpq : p = q
      · rw [decide_eq_true hpq] at hneq
        have Hn := Lib.hid (show a.exts.take (k + 1) = b.exts.take (k + 1) by rw [List.take_succ_eq_append_getElem hlt, List.take_succ_eq_append_getElem hlt2, Hr.out, Hp.out, Hq.out, hpq])
        clear hpq
        go_wp2_with fail
        refine wp_region_quiet_below (by kernel_rfl) (by kernel_rfl) ?_
        repeat (go_big_quiet_step ((fail)))
        refine wpQuiet_nil ?_
        intro w2 hwq
        have hb2 : Below (wr).heap.size (wr) w2 := by
          obtain ⟨pq, rfl⟩ := hwq
          exact below_regrown _ _ _
        clear hwq
        go_wp2
        go_roundw
        case rel => exact ⟨k + 1, by omega, by go_num, Hn.out, hb.trans (hb2.mono hb.size)⟩
        case measure => simp [intOf]; omega
      · rw [decide_eq_false hpq] at hneq
        have Hn := Lib.hid (show decide (a = b) = false by
          rw [Hab.out, decide_eq_false]
          intro h
          apply hpq
          rw [← Hp.out, ← Hq.out]
          simp [h])
        clear hpq
        go_wp2_with fail
        refine wp_region_quiet_below (by kernel_rfl) (by kernel_rfl) ?_
        repeat (go_big_quiet_step ((fail)))
        refine wpQuiet_nil ?_
        intro w2 hwq
        have hb2 : Below (wr).heap.size (wr) w2 := by
          obtain ⟨pq, rfl⟩ := hwq
          exact below_regrown _ _ _
        clear hwq
        go_wp2
        go_ret
        exact ⟨ret_b Hn.out.symm, hb1'.trans ((hb.trans (hb2.mono hb.size)).mono hb1'.size)⟩
    · have Hn := Lib.hid (show decide (a = b) = true by
        have := Hr.out
        rw [List.take_of_length_le (by omega), List.take_of_length_le (by rw [← Hll.out]; omega)] at this
        rw [Hab.out, decide_eq_true this])
      go_wp2
      go_ret
      exact ⟨ret_b Hn.out.symm, hb1'.trans (hb.mono hb1'.size)⟩
end Go.Proofs.YtcbmdghnlbieeaaGreatDoor
namespace Go.Proofs.YtcbmdghnlbieeaaGreatDoor
open Go.RowKit

abbrev AllE (t : List Ent) : Prop := ∀ x ∈ t, x.Wf

set_option maxRecDepth 100000 in
set_option maxHeartbeats 1000000 in
theorem ref37_Same (I : IH) (v1 v2 : Value) (l1 l2 : List Ent) (hv1 : RdS tEnt I v1 l1) (hv2 : RdS tEnt I v2 l2) (w : World) (hw : Ok I w) :
    Calls Tryz.prog 17 #[v1, v2] w fun e w' => e = .returned (.bool (decide (l1 = l2))) ∧ Below w.heap.size w w' := by
  have hlen := hv1.len_le
  have hlen2 := hv2.len_le
  obtain ⟨ao, cap, rfl, hcap, hcm, _⟩ := id hv1
  obtain ⟨ao2, cap2, rfl, hcap2, hcm2, _⟩ := id hv2
  have Hv1 := Lib.hid hv1; clear hv1
  have Hv2 := Lib.hid hv2; clear hv2
  by_cases hll : l1.length = l2.length
  · have hn : ((l1.length : Int) != (l2.length : Int)) = false := by rw [hll]; simp
    have Hll := Lib.hid hll; clear hll
    go_enter Tryz.func17, Tryz.ntmps17
    go_wp2_with fail
    go_loopw [13] (fun s13 wr => ∃ k : Nat, k ≤ l1.length ∧ s13 = .int .i64 k ∧ l1.take k = l2.take k ∧ Below w.heap.size w wr) (fun i _ => l1.length - (intOf i).toNat)
    case atStart => exact ⟨0, Nat.zero_le _, rfl, rfl, Below.refl _ _⟩
    case round =>
      obtain ⟨k, hk, rfl, hr, hb⟩ := hrel
      have Hr := Lib.hid hr; clear hr
      by_cases hlt : k < l1.length
      · have hlt2 : k < l2.length := by rw [← Hll.out]; exact hlt
        have hwr : Ok I wr := hw.below (Nat.le_refl _) hb
        obtain ⟨x, va, vx, b, off, cap', hlx, hvv, ⟨c0, c1, c2, c3, c4, c5, c6⟩, h1, h2⟩ := entAt Hv1.out hwr k hlt
        cases hvv
        obtain ⟨y, vb, vy, b', off', cap'', hly, hvv, ⟨d0, d1, d2, d3, d4, d5, d6⟩, h3, h4⟩ := entAt Hv2.out hwr k hlt2
        cases hvv
        have Hx := Lib.hid hlx
        have Hy := Lib.hid hly
        have Heq := Lib.hid (fun W hW => ref36_Equal I x y va vx vb vy h1 h2 h3 h4 W hW)
        obtain ⟨aa, ca, rfl, _, _, _⟩ := id h1
        obtain ⟨ax, cx, rfl, _, _, _⟩ := id h2
        obtain ⟨aa2, ca2, rfl, _, _, _⟩ := id h3
        obtain ⟨ax2, cx2, rfl, _, _, _⟩ := id h4
        have c0 := cell_regrown c0
        have c1 := cell_regrown c1
        have c2 := cell_regrown c2
        have c3 := cell_regrown c3
        have c4 := cell_regrown c4
        have c5 := cell_regrown c5
        have c6 := cell_regrown c6
        have d0 := cell_regrown d0
        have d1 := cell_regrown d1
        have d2 := cell_regrown d2
        have d3 := cell_regrown d3
        have d4 := cell_regrown d4
        have d5 := cell_regrown d5
        have d6 := cell_regrown d6
        clear hlx hly h1 h2 h3 h4
        by_cases hxy : x = y
        · rw [decide_eq_true hxy] at Heq
          have Hn := Lib.hid (show l1.take (k + 1) = l2.take (k + 1) by rw [List.take_succ_eq_append_getElem hlt, List.take_succ_eq_append_getElem hlt2, Hr.out, Hx.out, Hy.out, hxy])
          clear hxy
          go_wp2_with fail
          refine wp_region_quiet_below (by kernel_rfl) (by kernel_rfl) ?_
          repeat (go_big_quiet_step ((with_reducible exact Calls.regrown_of (Heq.out _ (hwr.below (Nat.le_refl _) (below_regrown _ _ _))))))
          refine wpQuiet_nil ?_
          intro w2 hwq
          have hb2 : Below (wr).heap.size (wr) w2 := by
            obtain ⟨pq, rfl⟩ := hwq
            exact below_regrown _ _ _
          clear hwq
          go_wp2
          go_roundw
          case rel => exact ⟨k + 1, by omega, by go_num, Hn.out, hb.trans (hb2.mono hb.size)⟩
          case measure => simp [intOf]; omega
        · rw [decide_eq_false hxy] at Heq
          have Hn := Lib.hid (show decide (l1 = l2) = false by
            rw [decide_eq_false]
            intro h
            apply hxy
            rw [← Hx.out, ← Hy.out]
            simp [h])
          clear hxy
          go_wp2_with fail
          refine wp_region_quiet_below (by kernel_rfl) (by kernel_rfl) ?_
          repeat (go_big_quiet_step ((with_reducible exact Calls.regrown_of (Heq.out _ (hwr.below (Nat.le_refl _) (below_regrown _ _ _))))))
          refine wpQuiet_nil ?_
          intro w2 hwq
          have hb2 : Below (wr).heap.size (wr) w2 := by
            obtain ⟨pq, rfl⟩ := hwq
            exact below_regrown _ _ _
          clear hwq
          go_wp2
          go_ret
          exact ⟨ret_b Hn.out.symm, hb.trans (hb2.mono hb.size)⟩
      · have Hn := Lib.hid (show decide (l1 = l2) = true by
          have := Hr.out
          rw [List.take_of_length_le (by omega), List.take_of_length_le (by rw [← Hll.out]; omega)] at this
          rw [decide_eq_true this])
        go_wp2
        go_ret
        exact ⟨ret_b Hn.out.symm, hb⟩
  · have hn : ((l1.length : Int) != (l2.length : Int)) = true := by rw [bne_iff_ne]; omega
    have Hn := Lib.hid (show decide (l1 = l2) = false from decide_eq_false fun e => hll (by rw [e]))
    clear hll
    go_enter Tryz.func17, Tryz.ntmps17
    go_wp2
    go_ret
    exact ⟨ret_b Hn.out.symm, Below.refl _ _⟩

/-- What the reference's Check of trees returns. -/
def chkTRFrom (t : List Ent) : Option Ent → List Ent → Int
  | _, [] => 0
  | q, x :: l => if entErrR x ≠ 0 then entErrR x else if x.kind ≠ 1 ∧ x.kind ≠ 2 ∧ x.kind ≠ 3 then 10 else if (q.any fun y => !(ltP (els y.path) (els x.path))) then 14 else if dirErr t (upP x.path) ≠ 0 then dirErr t (upP x.path) else chkTRFrom t (some x) l
def chkTR (t : List Ent) : Int := chkTRFrom t none t
theorem chkTRFrom_eq (t : List Ent) : ∀ (l : List Ent) (q : Option Ent), (∀ x ∈ l, x.exts.length ≤ 1000000) → chkTRFrom t q l = chkTFrom t q l
  | [], _, _ => rfl
  | x :: l, q, h => by
    rw [chkTRFrom, chkTFrom, entErrR_eq (h x (List.mem_cons_self ..)), chkTRFrom_eq t l _ fun y hy => h y (List.mem_cons_of_mem _ hy)]
theorem chkTR_eq {t : List Ent} (h : ∀ x ∈ t, x.exts.length ≤ 1000000) : chkTR t = chkT t := chkTRFrom_eq t t none h
theorem chkTRFrom_step (t : List Ent) (q : Option Ent) (x : Ent) (l : List Ent) : chkTRFrom t q (x :: l) = if entErrR x ≠ 0 then entErrR x else if x.kind ≠ 1 ∧ x.kind ≠ 2 ∧ x.kind ≠ 3 then 10 else if (q.any fun y => !(ltP (els y.path) (els x.path))) then 14 else if dirErr t (upP x.path) ≠ 0 then dirErr t (upP x.path) else chkTRFrom t (some x) l := rfl

theorem entErrR_path {x : Ent} (h : entErrR x = 0) : pathErr x.path = 0 ∧ (x.path ≠ [] ∨ 5 ≤ x.kind) := by
  unfold entErrR at h
  split at h
  · omega
  · split at h
    · contradiction
    · rename_i h1 h2
      refine ⟨Classical.byContradiction h2, ?_⟩
      split at h
      · omega
      · rename_i h3
        by_cases hp : x.path = []
        · right; exact Int.not_lt.1 fun h4 => h3 ⟨hp, h4⟩
        · exact .inl hp
theorem cmpP_lt' {p d : Bytes} (h : ltP (els p) (els d) = true) : cmpP p d = -1 := by rw [cmpP, h]; rfl
theorem cmpP_ge' {p d : Bytes} (h : ltP (els p) (els d) = false) : cmpP p d = 0 ∨ cmpP p d = 1 := by
  rw [cmpP, h]
  cases ltP (els d) (els p) <;> simp
theorem parP_ok {s : Bytes} (h : pathErr s = 0) (hs : s ≠ []) : parP s = (upP s, 0) := by rw [parP, if_neg (by omega), if_neg hs]
end Go.Proofs.YtcbmdghnlbieeaaGreatDoor
namespace Go.Proofs.YtcbmdghnlbieeaaGreatDoor
open Go.RowKit

theorem okT_path {t : List Ent} {k : Nat} (h : ∀ y ∈ t.take k, pathErr y.path = 0) {x : Ent} (hk : k < t.length) (hx : t[k] = x) (he : pathErr x.path = 0) : ∀ y ∈ t.take (k + 1), pathErr y.path = 0 := by
  intro y hy
  rw [List.take_succ_eq_append_getElem hk, List.mem_append] at hy
  rcases hy with hy | hy
  · exact h y hy
  · simp at hy; rw [hy, hx]; exact he


set_option maxRecDepth 100000 in
set_option maxHeartbeats 4000000 in
theorem ref37_Check (I : IH) (v : Value) (t : List Ent) (hv : RdS tEnt I v t) (ht : AllE t) (w : World) (hw : Ok I w) :
    Calls Tryz.prog 20 #[v] w fun e w' => e = .returned (.int .i64 (chkTR t)) ∧ Below w.heap.size w w' := by
  have hlen := hv.len_le
  obtain ⟨ao, cap, rfl, hcap, hcm, _⟩ := id hv
  have Hv := Lib.hid hv; clear hv
  have Ht := Lib.hid ht; clear ht
  have Hdir0 := Lib.hid (fun p w hw => ref37_dir I _ t Hv.out p w hw)
  go_enter Tryz.func20, Tryz.ntmps20
  go_wp2_with fail
  go_loopw [11] (fun s11 wr => ∃ k : Nat, k ≤ t.length ∧ s11 = .int .i64 k ∧ chkTRFrom t (if k = 0 then none else t[k-1]?) (t.drop k) = chkTR t ∧ (∀ y ∈ t.take k, pathErr y.path = 0) ∧ Below w.heap.size w wr) (fun i _ => t.length - (intOf i).toNat)
  case atStart => exact ⟨0, Nat.zero_le _, rfl, rfl, by simp, Below.refl _ _⟩
  case round =>
    obtain ⟨k, hk, rfl, hr, hok, hb⟩ := hrel
    have Hr := Lib.hid hr
    have Hok := Lib.hid hok
    clear hr hok
    have hwr : Ok I wr := hw.below (Nat.le_refl _) hb
    by_cases hlt : k < t.length
    case neg =>
      have Hn := Lib.hid (show chkTR t = 0 by rw [← Hr.out, List.drop_of_length_le (by omega)]; rfl)
      go_wp2
      go_ret
      exact ⟨ret_i Hn.out.symm, hb⟩
    obtain ⟨x, va, vx, b, off, cap', hlx, hvv, ⟨c0, c1, c2, c3, c4, c5, c6⟩, h1, h2⟩ := entAt Hv.out hwr k hlt
    cases hvv
    have Hst := Lib.hid (show chkTR t = if entErrR x ≠ 0 then entErrR x else if x.kind ≠ 1 ∧ x.kind ≠ 2 ∧ x.kind ≠ 3 then 10 else if ((if k = 0 then none else t[k-1]?).any fun y => !(ltP (els y.path) (els x.path))) then 14 else if dirErr t (upP x.path) ≠ 0 then dirErr t (upP x.path) else chkTRFrom t (some x) (t.drop (k+1)) by
      rw [← Hr.out, List.drop_eq_getElem_cons hlt, hlx, chkTRFrom_step])
    have Hkx := Lib.hid (show t[k]? = some x by rw [List.getElem?_eq_getElem hlt, hlx])
    have Hlx := Lib.hid hlx
    have Hxw := Lib.hid (Ht.out x (by rw [← hlx]; exact List.getElem_mem hlt))
    have Hck := Lib.hid (fun w hw => ref36_Check I x va vx h1 h2 Hxw.out w hw)
    obtain ⟨aa, ca, rfl, _, _, _⟩ := id h1
    obtain ⟨ax, cx, rfl, _, _, _⟩ := id h2
    clear hlx h1 h2
    go_wp2_with fail
    refine (Hck.out _ (hwr.alloc _)).mono ?_
    rintro e w1 ⟨rfl, hb1⟩
    obtain ⟨d0, d1, d2, d3, d4, d5, d6⟩ := entB rfl hb1
    have hb1' := (hb.alloc hb.size _).trans (hb1.mono (by have := hb.size; simp; omega))
    have hok1 : Ok I w1 := (hwr.alloc _).below (Nat.le_refl _) hb1
    clear hb1 c0 c1 c2 c3 c4 c5 c6
    by_cases h0 : entErrR x = 0
    case neg =>
      obtain ⟨q, hq⟩ : ∃ q, entErrR x = q := ⟨_, rfl⟩
      have hn : (q != 0) = true := by rw [← hq]; simpa using h0
      have Hn := Lib.hid (show chkTR t = q by rw [Hst.out, if_pos h0, hq])
      rw [hq]
      clear hq h0
      go_wp2
      go_ret
      exact ⟨ret_i Hn.out.symm, hb1'⟩
    replace Hst := Lib.hid (show chkTR t = _ by rw [Hst.out, if_neg (show ¬ entErrR x ≠ 0 by omega)])
    have Hpe := Lib.hid (entErrR_path h0)
    have hxl : x.path.length ≤ 200 := (pathErr_ok Hpe.out.1).1
    rw [h0]
    clear h0
    by_cases hkk : x.kind ≠ 1 ∧ x.kind ≠ 2 ∧ x.kind ≠ 3
    case pos =>
      have k1 : ((x.kind : Int) != 1) = true := by simpa using hkk.1
      have k2 : ((x.kind : Int) != 2) = true := by simpa using hkk.2.1
      have k3 : ((x.kind : Int) != 3) = true := by simpa using hkk.2.2
      have Hn := Lib.hid (show chkTR t = 10 by rw [Hst.out, if_pos hkk])
      clear hkk
      go_wp2
      go_ret
      exact ⟨ret_i Hn.out.symm, hb1'⟩
    replace Hst := Lib.hid (show chkTR t = _ by rw [Hst.out, if_neg hkk])
    have Hk3 := Lib.hid (show x.kind = 1 ∨ x.kind = 2 ∨ x.kind = 3 by omega)
    have hxp : x.path ≠ [] := by
      rcases Hpe.out.2 with h | h
      · exact h
      · have := Hk3.out; omega
    have Hpar := Lib.hid (fun I w hw => ref31_Parent I x.path w hw)
    have Hpar2 := Lib.hid (parP_ok Hpe.out.1 hxp)
    have Hdir := Lib.hid (fun w hw => Hdir0.out (upP x.path) w hw)
    clear hkk hxp
    go_upto_region 7 with fail
    go_cut [33] (fun s33 wx => s33 = .bool false ∧ w1 = wx)
    case first =>
      rcases Hk3.out with hk1 | hk1 | hk1
      · have k1 : ((x.kind : Int) != 1) = false := by rw [hk1]; rfl
        clear hk1
        go_wp2_with fail
        go_meet
        exact ⟨rfl, rfl⟩
      · have k1 : ((x.kind : Int) != 1) = true := by rw [hk1]; rfl
        have k2 : ((x.kind : Int) != 2) = false := by rw [hk1]; rfl
        clear hk1
        go_wp2_with fail
        go_meet
        exact ⟨rfl, rfl⟩
      · have k1 : ((x.kind : Int) != 1) = true := by rw [hk1]; rfl
        have k2 : ((x.kind : Int) != 2) = true := by rw [hk1]; rfl
        have k3 : ((x.kind : Int) != 3) = false := by rw [hk1]; rfl
        clear hk1
        go_wp2_with fail
        go_meet
        exact ⟨rfl, rfl⟩
    case rest =>
      obtain ⟨rfl, hcut⟩ := hcut
      subst hcut
      by_cases hk0 : k = 0
      · have hd : decide (0 < k) = false := decide_eq_false (by omega)
        have hk1 : k < 1 := by omega
        replace Hst := Lib.hid (show chkTR t = if dirErr t (upP x.path) ≠ 0 then dirErr t (upP x.path) else chkTRFrom t (some x) (t.drop (k+1)) by rw [Hst.out, if_pos hk0]; rfl)
        clear hk0
        have g0 := cell_regrown d0
        have g1 := cell_regrown d1
        go_wp2_with fail
        refine wp_region_quiet_below (by kernel_rfl) (by kernel_rfl) ?_
        repeat (go_big_quiet_step ((fail)))
        refine wpQuiet_nil ?_
        intro w4 hwq
        have hb4 : Below (w1).heap.size (w1) w4 := by
          obtain ⟨pq, rfl⟩ := hwq
          exact below_regrown _ _ _
        clear hwq
        have hb4' := hb1'.trans (hb4.mono hb1'.size)
        have hok4 : Ok I w4 := hok1.below (Nat.le_refl _) hb4
        have d1 := cell_thru hb4 d1
        clear hb4 g0 g1
        go_wp2_with fail
        refine (Hpar.out I _ hok4).mono ?_
        rw [Hpar2.out]
        rintro e w5 ⟨rfl, hb5⟩
        have hb5' := hb4'.trans (hb5.mono hb4'.size)
        have hok5 : Ok I w5 := Ok.below hok4 (Nat.le_refl _) hb5
        go_wp2_with fail
        refine (Hdir.out _ hok5).mono ?_
        rintro e w6 ⟨rfl, hb6⟩
        have hb6' := hb5'.trans (hb6.mono hb5'.size)
        by_cases hde : dirErr t (upP x.path) = 0
        · have Hn := Lib.hid (show chkTRFrom t (if k + 1 = 0 then none else t[k+1-1]?) (t.drop (k+1)) = chkTR t by
            rw [Hst.out, if_neg (show ¬ dirErr t (upP x.path) ≠ 0 by omega), Nat.add_sub_cancel, Hkx.out]; simp)
          rw [hde]
          clear hde
          go_wp2
          go_roundw
          case rel => exact ⟨k + 1, by omega, by go_num, Hn.out, okT_path Hok.out hlt Hlx.out Hpe.out.1, hb6'⟩
          case measure => simp [intOf]; omega
        · obtain ⟨q, hq⟩ : ∃ q, dirErr t (upP x.path) = q := ⟨_, rfl⟩
          have hn : (q != 0) = true := by rw [← hq]; simpa using hde
          have Hn := Lib.hid (show chkTR t = q by rw [Hst.out, if_pos hde, hq])
          rw [hq]
          clear hq hde
          go_wp2
          go_ret
          exact ⟨ret_i Hn.out.symm, hb6'⟩
      · obtain ⟨y, vb, vy, b', off', cap'', hly, hvv, ⟨_, e1, _, _, _, _, _⟩, _, _⟩ := entAt Hv.out hok1 (k - 1) (by omega)
        cases hvv
        have hd : decide (0 < k) = true := decide_eq_true (by omega)
        have hkp : 0 < k := by omega
        have hi : IntKind.i64.wrap ((k : Int) - 1) = (k : Int) - 1 := IntWalk.i64_in _ (by omega)
        have hj : 0 ≤ (k : Int) - 1 := by omega
        have hm : ((k : Int) - 1).toNat = k - 1 := by omega
        have hyl : y.path.length ≤ 200 := (pathErr_ok (Hok.out y (by
          rw [← hly]
          have : (t.take k)[k - 1]'(by simp; omega) = t[k - 1] := List.getElem_take
          rw [← this]
          exact List.getElem_mem _))).1
        replace Hst := Lib.hid (show chkTR t = if !(ltP (els y.path) (els x.path)) then 14 else if dirErr t (upP x.path) ≠ 0 then dirErr t (upP x.path) else chkTRFrom t (some x) (t.drop (k+1)) by
          rw [Hst.out, if_neg hk0, List.getElem?_eq_getElem (by omega), hly]; rfl)
        have Hcmp := Lib.hid (fun w hw => ref31_Compare I y.path x.path (by omega) (by omega) w hw)
        clear hly hk0
        have g1 := cell_regrown d1
        have f1 := cell_regrown e1
        cases hl : ltP (els y.path) (els x.path)
        · have Hn := Lib.hid (show chkTR t = 14 by rw [Hst.out, hl]; rfl)
          have hc := cmpP_ge' hl
          rcases hc with hc | hc
          all_goals
            rw [hc] at Hcmp
            clear hc
            go_wp2_with fail
            refine wp_region_quiet_below (by kernel_rfl) (by kernel_rfl) ?_
            repeat (go_big_quiet_step ((with_reducible exact Calls.regrown_of (Hcmp.out _ (hok1.below (Nat.le_refl _) (below_regrown _ _ _))))))
            refine wpQuiet_nil ?_
            intro w4 hwq
            have hb4 : Below (w1).heap.size (w1) w4 := by
              obtain ⟨pq, rfl⟩ := hwq
              exact below_regrown _ _ _
            clear hwq
            go_wp2
            go_ret
            exact ⟨ret_i Hn.out.symm, hb1'.trans (hb4.mono hb1'.size)⟩
        · replace Hst := Lib.hid (show chkTR t = if dirErr t (upP x.path) ≠ 0 then dirErr t (upP x.path) else chkTRFrom t (some x) (t.drop (k+1)) by rw [Hst.out, hl]; rfl)
          rw [cmpP_lt' hl] at Hcmp
          clear hl
          go_wp2_with fail
          refine wp_region_quiet_below (by kernel_rfl) (by kernel_rfl) ?_
          repeat (go_big_quiet_step ((with_reducible exact Calls.regrown_of (Hcmp.out _ (hok1.below (Nat.le_refl _) (below_regrown _ _ _))))))
          refine wpQuiet_nil ?_
          intro w4 hwq
          have hb4 : Below (w1).heap.size (w1) w4 := by
            obtain ⟨pq, rfl⟩ := hwq
            exact below_regrown _ _ _
          clear hwq
          have hb4' := hb1'.trans (hb4.mono hb1'.size)
          have hok4 : Ok I w4 := hok1.below (Nat.le_refl _) hb4
          have d1 := cell_thru hb4 d1
          clear hb4 g1 f1
          go_wp2_with fail
          refine (Hpar.out I _ hok4).mono ?_
          rw [Hpar2.out]
          rintro e w5 ⟨rfl, hb5⟩
          have hb5' := hb4'.trans (hb5.mono hb4'.size)
          have hok5 : Ok I w5 := Ok.below hok4 (Nat.le_refl _) hb5
          go_wp2_with fail
          refine (Hdir.out _ hok5).mono ?_
          rintro e w6 ⟨rfl, hb6⟩
          have hb6' := hb5'.trans (hb6.mono hb5'.size)
          by_cases hde : dirErr t (upP x.path) = 0
          · have Hn := Lib.hid (show chkTRFrom t (if k + 1 = 0 then none else t[k+1-1]?) (t.drop (k+1)) = chkTR t by
              rw [Hst.out, if_neg (show ¬ dirErr t (upP x.path) ≠ 0 by omega), Nat.add_sub_cancel, Hkx.out]; simp)
            rw [hde]
            clear hde
            go_wp2
            go_roundw
            case rel => exact ⟨k + 1, by omega, by go_num, Hn.out, okT_path Hok.out hlt Hlx.out Hpe.out.1, hb6'⟩
            case measure => simp [intOf]; omega
          · obtain ⟨q, hq⟩ : ∃ q, dirErr t (upP x.path) = q := ⟨_, rfl⟩
            have hn : (q != 0) = true := by rw [← hq]; simpa using hde
            have Hn := Lib.hid (show chkTR t = q by rw [Hst.out, if_pos hde, hq])
            rw [hq]
            clear hq hde
            go_wp2
            go_ret
            exact ⟨ret_i Hn.out.symm, hb6'⟩

/-- What Right returns. -/
def rightT (t : List Ent) : Int := if 60 < t.length then 0 else if chkTR t ≠ 0 then 0 else if t.any greatE then 0 else 1

set_option maxRecDepth 100000 in
set_option maxHeartbeats 1000000 in
theorem ref37_Right (I : IH) (v : Value) (t : List Ent) (hv : RdS tEnt I v t) (ht : AllE t) (w : World) (hw : Ok I w) :
    Calls Tryz.prog 13 #[v] w fun e w' => e = .returned (.int .i64 (rightT t)) ∧ Below w.heap.size w w' := by
  have hlen := hv.len_le
  obtain ⟨ao, cap, rfl, hcap, hcm, _⟩ := id hv
  have Hck := Lib.hid (fun w hw => ref37_Check I _ t hv ht w hw)
  have Hv := Lib.hid hv; clear hv
  have Ht := Lib.hid ht; clear ht
  by_cases h60 : 60 < t.length
  case pos =>
    have Hn := Lib.hid (show rightT t = 0 by rw [rightT, if_pos h60])
    go_enter Tryz.func13, Tryz.ntmps13
    go_wp2
    go_ret
    exact ⟨ret_i Hn.out.symm, Below.refl _ _⟩
  by_cases h0 : chkTR t = 0
  case neg =>
    have Hn := Lib.hid (show rightT t = 0 by rw [rightT, if_neg h60, if_pos h0])
    obtain ⟨q, hq⟩ : ∃ q, chkTR t = q := ⟨_, rfl⟩
    have hn : (q != 0) = true := by rw [← hq]; simpa using h0
    rw [hq] at Hck
    clear hq h0
    go_enter Tryz.func13, Tryz.ntmps13
    go_wp2_with fail
    refine (Hck.out _ hw).mono ?_
    rintro e w1 ⟨rfl, hb1⟩
    go_wp2
    go_ret
    exact ⟨ret_i Hn.out.symm, hb1⟩
  have Hn := Lib.hid (show rightT t = if t.any greatE then 0 else 1 by rw [rightT, if_neg h60, if_neg (by omega)])
  rw [h0] at Hck
  clear h0
  go_enter Tryz.func13, Tryz.ntmps13
  go_wp2_with fail
  refine (Hck.out _ hw).mono ?_
  rintro e w1 ⟨rfl, hb1⟩
  have hok1 : Ok I w1 := hw.below (Nat.le_refl _) hb1
  go_wp2_with fail
  go_loopw [15] (fun s15 wr => ∃ k : Nat, k ≤ t.length ∧ s15 = .int .i64 k ∧ (t.take k).any greatE = false ∧ Below w1.heap.size w1 wr) (fun i _ => t.length - (intOf i).toNat)
  case atStart => exact ⟨0, Nat.zero_le _, rfl, rfl, Below.refl _ _⟩
  case round =>
    obtain ⟨k, hk, rfl, hr, hb⟩ := hrel
    have Hr := Lib.hid hr; clear hr
    have hwr : Ok I wr := hok1.below (Nat.le_refl _) hb
    by_cases hlt : k < t.length
    case neg =>
      have Hn2 := Lib.hid (show rightT t = 1 by
        have := Hr.out
        rw [List.take_of_length_le (by omega)] at this
        rw [Hn.out, this]; rfl)
      go_wp2
      go_ret
      exact ⟨ret_i Hn2.out.symm, hb1.trans (hb.mono hb1.size)⟩
    obtain ⟨x, va, vx, b, off, cap', hlx, hvv, ⟨c0, c1, c2, c3, c4, c5, c6⟩, h1, h2⟩ := entAt Hv.out hwr k hlt
    cases hvv
    have Hxm := Lib.hid (show x ∈ t by rw [← hlx]; exact List.getElem_mem hlt)
    have Htk := Lib.hid (show t.take (k + 1) = t.take k ++ [x] by rw [List.take_succ_eq_append_getElem hlt, hlx])
    have Hg := Lib.hid (fun w hw => ref36_Great I x va vx h1 h2 (Ht.out x Hxm.out) w hw)
    obtain ⟨aa, ca, rfl, _, _, _⟩ := id h1
    obtain ⟨ax, cx, rfl, _, _, _⟩ := id h2
    clear hlx h1 h2
    cases hg : greatE x
    · have Hn2 := Lib.hid (show (t.take (k + 1)).any greatE = false by rw [Htk.out, List.any_append, Hr.out]; simp [hg])
      have hge : grE x = 0 := by rw [grE, hg]; rfl
      rw [hge] at Hg
      clear hg hge
      go_wp2_with fail
      refine (Hg.out _ (hwr.alloc _)).mono ?_
      rintro e w2 ⟨rfl, hb2⟩
      have hb2' := (hb.alloc hb.size _).trans (hb2.mono (by have := hb.size; simp; omega))
      clear hb2 c0 c1 c2 c3 c4 c5 c6
      go_wp2
      go_roundw
      case rel => exact ⟨k + 1, by omega, by go_num, Hn2.out, hb2'⟩
      case measure => simp [intOf]; omega
    · have Hn2 := Lib.hid (show rightT t = 0 by rw [Hn.out, if_pos (List.any_eq_true.2 ⟨x, Hxm.out, hg⟩)])
      have hge : grE x = 1 := by rw [grE, hg]; rfl
      rw [hge] at Hg
      clear hg hge
      go_wp2_with fail
      refine (Hg.out _ (hwr.alloc _)).mono ?_
      rintro e w2 ⟨rfl, hb2⟩
      have hb2' := (hb.alloc hb.size _).trans (hb2.mono (by have := hb.size; simp; omega))
      clear hb2 c0 c1 c2 c3 c4 c5 c6
      go_wp2
      go_ret
      exact ⟨ret_i Hn2.out.symm, hb1.trans (hb2'.mono hb1.size)⟩
end Go.Proofs.YtcbmdghnlbieeaaGreatDoor
