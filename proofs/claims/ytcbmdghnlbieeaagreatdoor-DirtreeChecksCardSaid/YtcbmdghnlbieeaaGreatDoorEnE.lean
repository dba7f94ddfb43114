/-
  Walks of the reference's layer 37: Get, dir.
-/
import Derived.Test.YtcbmdghnlbieeaaGreatDoorEnD
namespace Go.Proofs.YtcbmdghnlbieeaaGreatDoor
open Go.RowKit

theorem below_setRow {B : Nat} {w w' : World} {g : Nat} (h : Below B w w') (hg : B ≤ g) (cs : Array Value) : Below B w (w'.setRow g cs) :=
  ⟨h.os, h.tape, h.output, by simpa using h.size, fun k hk => by rw [setRow_other _ _ _ _ (by omega)]; exact h.block k hk⟩

def zeroE : Ent := ⟨0, [], [], [], 0, [], []⟩
/-- What Get returns. -/
def getE (t : List Ent) (p : Bytes) : Ent × Bool := match getT t p with | some x => (x, true) | none => (zeroE, false)
def RetG (I : IH) (w : World) (x : Ent × Bool) (e : Ending) (w' : World) : Prop :=
  ∃ va vx, e = .returned (.tuple #[entV x.1 va vx, .bool x.2]) ∧ RdS tAt I va x.1.attrs ∧ RdS tXt I vx x.1.exts ∧ Below w.heap.size w w'

abbrev entRow (x : Ent) (va vx : Value) : Array Value := #[.int .i64 x.kind, S x.path, va, S x.target, .int .i64 x.size, S x.digest, vx]
/-- The cells of the zero entry. -/
abbrev zeroRow : Array Value := #[.int .i64 0, .string ⟨#[]⟩, .slice none 0 0, .string ⟨#[]⟩, .int .i64 0, .string ⟨#[]⟩, .slice none 0 0]
theorem entRow_one {x : Ent} {va vx : Value} {I : IH} (h1 : RdS tAt I va x.attrs) (h2 : RdS tXt I vx x.exts) : (entRow x va vx).all (·.oneCell') = true := by
  have e1 := h1.one
  have e2 := h2.one
  simp [entRow, e1, e2]
  exact ⟨rfl, rfl, rfl, rfl, rfl⟩

set_option maxRecDepth 100000 in
set_option maxHeartbeats 1000000 in
theorem ref37_Get (I : IH) (v : Value) (t : List Ent) (hv : RdS tEnt I v t) (p : Bytes) (w : World) (hw : Ok I w) :
    Calls Tryz.prog 24 #[v, S p] w (RetG I w (getE t p)) := by
  have hlen := hv.len_le
  obtain ⟨ao, cap, rfl, hcap, hcm, _⟩ := id hv
  have Hv := Lib.hid hv; clear hv
  have hi7 : (Tryz.prog.info? 26).map (·.size) = some 7 := by kernel_rfl
  have Hz := Lib.hid (heap_alloc_new w (.cells zeroRow 26))
  go_enter Tryz.func24, Tryz.ntmps24
  go_wp2_with fail
  go_loopw [10] (fun s10 wr => ∃ k : Nat, k ≤ t.length ∧ s10 = .int .i64 k ∧ getT t p = getT (t.drop k) p ∧ Below w.heap.size w wr ∧ w.heap.size < wr.heap.size ∧ wr.heap[w.heap.size]? = some (.cells zeroRow 26 (0, 0))) (fun i _ => t.length - (intOf i).toNat)
  case atStart => exact ⟨0, Nat.zero_le _, rfl, rfl, (Below.refl _ _).alloc (Nat.le_refl _) _, by simp, Hz.out⟩
  case round =>
    clear Hz
    obtain ⟨k, hk, rfl, hr, hb, hsz, hz⟩ := hrel
    have Hr := Lib.hid hr
    have Hz := Lib.hid hz
    clear hr hz
    have hwr : Ok I wr := hw.below (Nat.le_refl _) hb
    by_cases hlt : k < t.length
    · obtain ⟨x, va, vx, b, off, cap', hlx, hvv, ⟨c0, c1, c2, c3, c4, c5, c6⟩, h1, h2⟩ := entAt Hv.out hwr k hlt
      cases hvv
      have Hst := Lib.hid (show getT t p = if (x.path == p) then some x else getT (t.drop (k + 1)) p by
        rw [Hr.out, List.drop_eq_getElem_cons hlt, hlx, getT, List.find?_cons]; cases (x.path == p) <;> rfl)
      obtain ⟨aa, ca, rfl, _, _, _⟩ := id h1
      obtain ⟨ax, cx, rfl, _, _, _⟩ := id h2
      have H1 := Lib.hid h1
      have H2 := Lib.hid h2
      clear hlx h1 h2
      cases he : (x.path == p)
      · have Hn := Lib.hid (show getT t p = getT (t.drop (k + 1)) p by rw [Hst.out, he]; rfl)
        go_wp2
        go_roundw
        case rel => exact ⟨k + 1, by omega, by go_num, Hn.out, hb.alloc hb.size _, by simp; omega, (Below.heap_alloc wr _ _ hsz).trans Hz.out⟩
        case measure => simp [intOf]; omega
      · have Hn := Lib.hid (show getE t p = (x, true) by rw [getE, Hst.out, he]; rfl)
        have hz1 : (wr.alloc (.cells (entRow x (.slice aa x.attrs.length ca) (.slice ax x.exts.length cx)) 26)).heap[w.heap.size]? = some (.cells zeroRow 26 (0, 0)) := (Below.heap_alloc wr _ _ hsz).trans Hz.out
        have Hz1 := Lib.hid hz1
        have hone := entRow_one H1.out H2.out
        clear hz1
        go_wp2_with (refine wpList_store_row rfl 26 _ _ rfl w.heap.size (entRow x (.slice aa x.attrs.length ca) (.slice ax x.exts.length cx)) rfl rfl 26 zeroRow Hz1.out hi7 rfl hone ?_)
        try simp only [Exit.inBlock, Exit.then]
        refine bodyPost_ret (v := .tuple #[entV x (.slice aa x.attrs.length ca) (.slice ax x.exts.length cx), .bool true]) ?_ rfl ?_
        · rw [results_cell_tmp rfl]
          simp [asAddr, run_loadVar_row _ w.heap.size 26 26 (entRow x (.slice aa x.attrs.length ca) (.slice ax x.exts.length cx)) (0, 0) _ (setRow_heap _ _ _ _ _ _ Hz1.out) Tryz.underlying26 rfl hi7]
        · rw [Hn.out]
          exact ⟨_, _, rfl, H1.out, H2.out, below_setRow (hb.alloc hb.size _) (Nat.le_refl _) _⟩
    · have Hn := Lib.hid (show getE t p = (zeroE, false) by rw [getE, Hr.out, List.drop_of_length_le (by omega)]; rfl)
      have hzo : zeroRow.all (·.oneCell') = true := by simp [Value.oneCell']
      go_wp2_with (refine wpList_store_row rfl 26 _ _ rfl w.heap.size zeroRow rfl rfl 26 zeroRow Hz.out hi7 rfl hzo ?_)
      try simp only [Exit.inBlock, Exit.then]
      refine bodyPost_ret (v := .tuple #[.agg zeroRow, .bool false]) ?_ rfl ?_
      · rw [results_cell_tmp rfl]
        simp [asAddr, run_loadVar_row _ w.heap.size 26 26 zeroRow (0, 0) _ (setRow_heap _ _ _ _ _ _ Hz.out) Tryz.underlying26 rfl hi7]
      · rw [Hn.out]
        exact ⟨.slice none 0 0, .slice none 0 0, rfl, RdS.nil _ _, RdS.nil _ _, below_setRow hb (Nat.le_refl _) _⟩
end Go.Proofs.YtcbmdghnlbieeaaGreatDoor
