/-
  Walks of layer 37 (dirtree): find, Get, directory, inTree.
-/
import Derived.Test.YtcbmdghnlbieeaaGreatDoorPeC
namespace Go.Proofs.YtcbmdghnlbieeaaGreatDoor
open Go.RowKit

/-- A predicate on entries at worlds of a class. -/
def PredE (g : Nat) (cb : Array Value) (l : List Ent) (p : Ent → Bool) (C : World → Prop) : Prop :=
  ∀ x ∈ l, ∀ (a1 a2 : Option Addr) (c1 c2 : Nat) (W : World), C W → Calls Tryz.prog g (#[entV x (.slice a1 x.attrs.length c1) (.slice a2 x.exts.length c2)] ++ cb) W fun e w' => e = .returned (.bool (p x)) ∧ Below W.heap.size W w'

set_option maxRecDepth 100000 in
set_option maxHeartbeats 400000 in
theorem lib_IndexFuncE (I : IH) (v : Value) (l : List Ent) (hv : RdS tEnt I v l) (g : Nat) (cb : Array Value) (p : Ent → Bool) (w : World) (hw : Ok I w) (eg : ∀ args w, (callFunc g args).run Tryz.prog w = .ok (.enter g args) w) (hp : PredE g cb l p (Below w.heap.size w)) :
    Calls Tryz.prog 76 #[v, .func (.func g) #[] cb] w fun e w' => e = .returned (.int .i64 (idxL l p)) ∧ Below w.heap.size w w' := by
  have hlen := hv.len_le
  obtain ⟨ao, cap, rfl, hcap, hcm, _⟩ := id hv
  have Hv := Lib.hid hv; clear hv
  have Hp := Lib.hid hp; clear hp
  go_enter Tryz.func76, Tryz.ntmps76
  go_wp2_with fail
  go_loopw [8] (fun s8 wr => ∃ k : Nat, k ≤ l.length ∧ s8 = .int .i64 k ∧ (l.take k).any p = false ∧ Below w.heap.size w wr) (fun i _ => l.length - (intOf i).toNat)
  case atStart => exact ⟨0, Nat.zero_le _, rfl, rfl, Below.refl _ _⟩
  case round =>
    obtain ⟨k, hk, rfl, hr, hb⟩ := hrel
    have Hr := Lib.hid hr; clear hr
    by_cases hlt : k < l.length
    · have hwr : Ok I wr := hw.below (Nat.le_refl _) hb
      obtain ⟨x, va, vx, b, off, cap', hlx, hvv, ⟨c0, c1, c2, c3, c4, c5, c6⟩, h1, h2⟩ := entAt Hv.out hwr k hlt
      cases hvv
      obtain ⟨aa, ca, rfl, _, _, _⟩ := id h1
      obtain ⟨ax, cx, rfl, _, _, _⟩ := id h2
      have Hlx := Lib.hid hlx
      have Hcall := Lib.hid (Hp.out x (by rw [← hlx]; exact List.getElem_mem hlt) aa ax ca cx wr hb)
      clear hlx h1 h2
      go_wp2_with fail
      refine Hcall.out.mono ?_
      rintro e w1 ⟨rfl, hb1⟩
      have hb1' := hb.trans (hb1.mono hb.size)
      clear hb1 Hcall c0 c1 c2 c3 c4 c5 c6
      cases hpx : p x
      · have Hn := Lib.hid (show (l.take (k + 1)).any p = false by rw [List.take_succ_eq_append_getElem hlt, List.any_append, Hr.out, Hlx.out]; simp [hpx])
        clear hpx
        go_wp2
        go_roundw
        case rel => exact ⟨k + 1, by omega, by go_num, Hn.out, hb1'⟩
        case measure => simp [intOf]; omega
      · have Hn := Lib.hid (idxL_some (p := p) hlt (by rw [Hlx.out]; exact hpx) Hr.out)
        clear hpx
        go_wp2
        go_ret
        exact ⟨ret_i Hn.out.symm, hb1'⟩
    · have Hn := Lib.hid (show idxL l p = -1 from idxL_none (by have := Hr.out; rwa [List.take_of_length_le (by omega)] at this))
      go_wp2
      go_ret
      exact ⟨ret_i Hn.out.symm, hb⟩

set_option maxRecDepth 100000 in
theorem dt_find1 (key : Bytes) (b : Nat) (l : List Ent) (w : World) (hc : w.cell? ⟨b, 0, none⟩ = some (S key)) : PredE 77 #[.pointer (some ⟨b, 0, none⟩)] l (fun x => x.path == key) (Below w.heap.size w) := by
  intro x _ a1 a2 c1 c2 W hW
  have hcW := cell_thru hW hc
  have hc2 := cell_past (.cells #[.int .i64 x.kind, S x.path, .slice a1 x.attrs.length c1, S x.target, .int .i64 x.size, S x.digest, .slice a2 x.exts.length c2] 26) hcW
  clear hc hcW
  go_enter Tryz.func77, Tryz.ntmps77
  go_wp2
  go_ret
  exact ⟨rfl, (Below.refl _ _).alloc (Nat.le_refl _) _⟩

abbrev isAt (p : Bytes) : Ent → Bool := fun x => x.path == p
set_option maxRecDepth 100000 in
set_option maxHeartbeats 400000 in
theorem dt_find (I : IH) (v : Value) (t : List Ent) (hv : RdS tEnt I v t) (p : Bytes) (w : World) (hw : Ok I w) :
    Calls Tryz.prog 36 #[v, S p] w fun e w' => e = .returned (.int .i64 (idxL t (isAt p))) ∧ Below w.heap.size w w' := by
  have Hp := Lib.hid (dt_find1 p w.heap.size t (w.alloc (.cells #[S p] 9)) (by simp))
  have Hi := Lib.hid (lib_IndexFuncE I v t hv _ _ _ _ (hw.alloc _) (fun _ _ => by kernel_rfl) Hp.out)
  obtain ⟨ao, cap, rfl, hcap, hcm, _⟩ := id hv
  clear hv
  obtain ⟨q, hq⟩ : ∃ q, idxL t (isAt p) = q := ⟨_, rfl⟩
  have Hq := Lib.hid hq
  have Hi2 := Lib.hid (Hi.out)
  clear Hi hq
  rw [show (fun x : Ent => x.path == p) = isAt p from rfl, Hq.out] at Hi2
  rw [Hq.out]
  go_enter Tryz.func36, Tryz.ntmps36
  go_wp2_with fail
  refine Hi2.out.mono ?_
  rintro e w1 ⟨rfl, hb1⟩
  go_wp2
  go_ret
  exact ⟨rfl, ((Below.refl _ _).alloc (Nat.le_refl _) _).trans (hb1.mono (by simp))⟩

theorem getE_some {t : List Ent} {p : Bytes} {i : Nat} (hi : i < t.length) (hp : isAt p t[i] = true) (hn : (t.take i).any (isAt p) = false) : getE t p = (t[i], true) := by
  have : getT t p = some t[i] := by
    unfold getT
    conv => lhs; rw [← List.take_append_drop i t]
    rw [List.find?_append, List.drop_eq_getElem_cons hi, List.find?_cons]
    have h2 : (t[i].path == p) = true := hp
    rw [h2]
    have : (t.take i).find? (fun x => x.path == p) = none := by
      rw [List.find?_eq_none]
      intro x hx hpx
      rw [List.any_eq_true.2 ⟨x, hx, hpx⟩] at hn
      exact absurd hn (by simp)
    rw [this]; rfl
  rw [getE, this]
theorem getE_none {t : List Ent} {p : Bytes} (hn : t.any (isAt p) = false) : getE t p = (zeroE, false) := by
  have : getT t p = none := by
    unfold getT
    rw [List.find?_eq_none]
    intro x hx hpx
    rw [List.any_eq_true.2 ⟨x, hx, hpx⟩] at hn
    exact absurd hn (by simp)
  rw [getE, this]

set_option maxRecDepth 100000 in
set_option maxHeartbeats 1000000 in
theorem dt_Get (I : IH) (v : Value) (t : List Ent) (hv : RdS tEnt I v t) (p : Bytes) (w : World) (hw : Ok I w) :
    Calls Tryz.prog 21 #[v, S p] w (RetG I w (getE t p)) := by
  have hlen := hv.len_le
  have Hf := Lib.hid (dt_find I v t hv p (w.alloc (.cells zeroRow 26)) (hw.alloc _))
  obtain ⟨ao, cap, rfl, hcap, hcm, _⟩ := id hv
  have Hv := Lib.hid hv; clear hv
  have hi7 : (Tryz.prog.info? 26).map (·.size) = some 7 := by kernel_rfl
  have hz0 := heap_alloc_new w (.cells zeroRow 26)
  have Hz0 := Lib.hid hz0
  clear hz0
  rcases idxL_cases t (isAt p) with ⟨i, hi, e1, e2, e3⟩ | ⟨e1, e2⟩
  · have Hn := Lib.hid (getE_some hi e2 e3)
    rw [e1] at Hf
    clear e1 e2 e3
    go_enter Tryz.func21, Tryz.ntmps21
    go_wp2_with fail
    refine Hf.out.mono ?_
    rintro e w1 ⟨rfl, hb1⟩
    have hok1 : Ok I w1 := (hw.alloc _).below (Nat.le_refl _) hb1
    have hsz : w.heap.size < w1.heap.size := by have := hb1.size; simp at this; omega
    have Hz := Lib.hid ((hb1.block w.heap.size (by simp)).trans Hz0.out)
    have hb1' := ((Below.refl w.heap.size w).alloc (Nat.le_refl _) (.cells zeroRow 26)).trans (hb1.mono (by simp))
    clear hb1
    obtain ⟨x, va, vx, b, off, cap', hlx, hvv, ⟨c0, c1, c2, c3, c4, c5, c6⟩, h1, h2⟩ := entAt Hv.out hok1 i hi
    cases hvv
    obtain ⟨aa, ca, rfl, _, _, _⟩ := id h1
    obtain ⟨ax, cx, rfl, _, _, _⟩ := id h2
    have H1 := Lib.hid h1
    have H2 := Lib.hid h2
    rw [hlx] at Hn
    have hone := entRow_one h1 h2
    clear hlx h1 h2
    go_wp2_with (refine wpList_store_row rfl 26 _ _ rfl w.heap.size (entRow x (.slice aa x.attrs.length ca) (.slice ax x.exts.length cx)) rfl rfl 26 zeroRow Hz.out hi7 rfl hone ?_)
    try simp only [Exit.inBlock, Exit.then]
    refine bodyPost_ret (v := .tuple #[entV x (.slice aa x.attrs.length ca) (.slice ax x.exts.length cx), .bool true]) ?_ rfl ?_
    · rw [results_cell_tmp rfl]
      simp [asAddr, run_loadVar_row _ w.heap.size 26 26 (entRow x (.slice aa x.attrs.length ca) (.slice ax x.exts.length cx)) (0, 0) _ (setRow_heap _ _ _ _ _ _ Hz.out) Tryz.underlying26 rfl hi7]
    · rw [Hn.out]
      exact ⟨_, _, rfl, H1.out, H2.out, below_setRow hb1' (Nat.le_refl _) _⟩
  · have Hn := Lib.hid (getE_none e2)
    rw [e1] at Hf
    clear e1 e2
    go_enter Tryz.func21, Tryz.ntmps21
    go_wp2_with fail
    refine Hf.out.mono ?_
    rintro e w1 ⟨rfl, hb1⟩
    have Hz := Lib.hid ((hb1.block w.heap.size (by simp)).trans Hz0.out)
    have hb1' := ((Below.refl w.heap.size w).alloc (Nat.le_refl _) (.cells zeroRow 26)).trans (hb1.mono (by simp))
    clear hb1
    have hzo : zeroRow.all (·.oneCell') = true := by simp [Value.oneCell']
    go_wp2_with (refine wpList_store_row rfl 26 _ _ rfl w.heap.size zeroRow rfl rfl 26 zeroRow Hz.out hi7 rfl hzo ?_)
    try simp only [Exit.inBlock, Exit.then]
    refine bodyPost_ret (v := .tuple #[.agg zeroRow, .bool false]) ?_ rfl ?_
    · rw [results_cell_tmp rfl]
      simp [asAddr, run_loadVar_row _ w.heap.size 26 26 zeroRow (0, 0) _ (setRow_heap _ _ _ _ _ _ Hz.out) Tryz.underlying26 rfl hi7]
    · rw [Hn.out]
      exact ⟨.slice none 0 0, .slice none 0 0, rfl, RdS.nil _ _, RdS.nil _ _, below_setRow hb1' (Nat.le_refl _) _⟩

set_option maxRecDepth 100000 in
set_option maxHeartbeats 400000 in
theorem dt_directory (I : IH) (v : Value) (t : List Ent) (hv : RdS tEnt I v t) (p : Bytes) (w : World) (hw : Ok I w) :
    Calls Tryz.prog 42 #[v, S p] w fun e w' => e = .returned (.int .i64 (dirErr t p)) ∧ Below w.heap.size w w' := by
  have Hg := Lib.hid (dt_Get I v t hv p w hw)
  obtain ⟨ao, cap, rfl, hcap, hcm, _⟩ := id hv
  clear hv
  by_cases hp : p = []
  · obtain ⟨p1, p2, p3, p4⟩ := eq_emp hp
    have Hn := Lib.hid (show dirErr t p = 0 by rw [dirErr, if_pos hp])
    clear hp
    generalize getE t p = g at Hg
    obtain ⟨x, b⟩ := g
    go_enter Tryz.func42, Tryz.ntmps42
    go_wp2_with fail
    refine Hg.out.mono ?_
    rintro e w1 ⟨va, vx, rfl, h1, h2, hb1⟩
    obtain ⟨aa, ca, rfl, _, _, _⟩ := id h1
    obtain ⟨ax, cx, rfl, _, _, _⟩ := id h2
    clear h1 h2
    go_wp2
    go_ret
    exact ⟨ret_i Hn.out.symm, hb1.alloc hb1.size _⟩
  · obtain ⟨p1, p2, p3, p4⟩ := ne_emp hp
    have Hn := Lib.hid (dirErr_get t p hp)
    clear hp
    generalize getE t p = g at Hn Hg
    obtain ⟨x, b⟩ := g
    go_enter Tryz.func42, Tryz.ntmps42
    go_wp2_with fail
    refine Hg.out.mono ?_
    rintro e w1 ⟨va, vx, rfl, h1, h2, hb1⟩
    obtain ⟨aa, ca, rfl, _, _, _⟩ := id h1
    obtain ⟨ax, cx, rfl, _, _, _⟩ := id h2
    clear h1 h2
    cases b
    · have Hn2 := Lib.hid (show dirErr t p = 9 by rw [Hn.out]; rfl)
      go_wp2
      go_ret
      exact ⟨ret_i Hn2.out.symm, hb1.alloc hb1.size _⟩
    · by_cases hk : x.kind = 2
      · have k1 : ((x.kind : Int) != 2) = false := by simpa using hk
        have Hn2 := Lib.hid (show dirErr t p = 0 by rw [Hn.out]; simp [hk])
        clear hk
        go_wp2
        go_ret
        exact ⟨ret_i Hn2.out.symm, hb1.alloc hb1.size _⟩
      · have k1 : ((x.kind : Int) != 2) = true := by simpa using hk
        have Hn2 := Lib.hid (show dirErr t p = 10 by rw [Hn.out]; simp [hk])
        clear hk
        go_wp2
        go_ret
        exact ⟨ret_i Hn2.out.symm, hb1.alloc hb1.size _⟩

def inT (k : Int) : Bool := decide (k = 1) || decide (k = 2) || decide (k = 3)
theorem inT_iff {k : Int} : inT k = true ↔ k = 1 ∨ k = 2 ∨ k = 3 := by simp [inT, or_assoc]
set_option maxRecDepth 100000 in
theorem dt_inTree (k : Int) (w : World) : Calls Tryz.prog 37 #[.int .i64 k] w fun e w' => e = .returned (.bool (inT k)) ∧ w = w' := by
  by_cases h1 : k = 1
  · have Hn := Lib.hid (show inT k = true from inT_iff.2 (.inl h1))
    have f1 : ((k : Int) == 1) = true := by simpa using h1
    clear h1
    go_enter Tryz.func37, Tryz.ntmps37
    go_wp2
    go_ret
    exact ⟨ret_b Hn.out.symm, rfl⟩
  by_cases h2 : k = 2
  · have Hn := Lib.hid (show inT k = true from inT_iff.2 (.inr (.inl h2)))
    have f1 : ((k : Int) == 1) = false := by simpa using h1
    have f2 : ((k : Int) == 2) = true := by simpa using h2
    clear h1 h2
    go_enter Tryz.func37, Tryz.ntmps37
    go_wp2
    go_ret
    exact ⟨ret_b Hn.out.symm, rfl⟩
  by_cases h3 : k = 3
  · have Hn := Lib.hid (show inT k = true from inT_iff.2 (.inr (.inr h3)))
    have f1 : ((k : Int) == 1) = false := by simpa using h1
    have f2 : ((k : Int) == 2) = false := by simpa using h2
    have f3 : ((k : Int) == 3) = true := by simpa using h3
    clear h1 h2 h3
    go_enter Tryz.func37, Tryz.ntmps37
    go_wp2
    go_ret
    exact ⟨ret_b Hn.out.symm, rfl⟩
  have Hn := Lib.hid (show inT k = false by
    cases h : inT k with
    | false => rfl
    | true => rcases inT_iff.1 h with h | h | h <;> contradiction)
  have f1 : ((k : Int) == 1) = false := by simpa using h1
  have f2 : ((k : Int) == 2) = false := by simpa using h2
  have f3 : ((k : Int) == 3) = false := by simpa using h3
  clear h1 h2 h3
  go_enter Tryz.func37, Tryz.ntmps37
  go_wp2
  go_ret
  exact ⟨ret_b Hn.out.symm, rfl⟩
end Go.Proofs.YtcbmdghnlbieeaaGreatDoor
