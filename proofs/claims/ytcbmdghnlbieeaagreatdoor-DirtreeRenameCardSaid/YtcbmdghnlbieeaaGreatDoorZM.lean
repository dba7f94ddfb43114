/-
  The laws of layer 37: File, small, alive: their walks.
  What the rows of layer 37 share: entries read from memory; the listed tables and errors; the wrap that hands on the world's shape.
-/
import Derived.Test.YtcbmdghnlbieeaaGreatDoorZL
import Derived.Test.YtcbmdghnlbieeaaGreatDoorZK
import Derived.Test.YtcbmdghnlbieeaaGreatDoorZA
import Derived.Test.YtcbmdghnlbieeaaGreatDoorZG
import Derived.Test.YtcbmdghnlbieeaaGreatDoorCards
import Derived.Test.YtcbmdghnlbieeaaGreatDoorTie
import Derived.HandedShaped
import Derived.Shelf.Vars
namespace Go.Proofs.YtcbmdghnlbieeaaGreatDoor
open Go.RowKit

def digF : Bytes := [48, 49, 50, 51, 52, 53, 54, 55, 56, 57, 97, 98, 99, 100, 101, 102, 48, 49, 50, 51, 52, 53, 54, 55, 56, 57, 97, 98, 99, 100, 101, 102]
def fileE (p : Bytes) : Ent := ⟨1, p, [], [], 0, digF, []⟩
abbrev nilV : Value := .slice none 0 0
def litE (k : Int) (p : Bytes) : Ent := ⟨k, p, [], [], 0, [], []⟩
theorem litE_wf {k : Int} {p : Bytes} (h0 : -9223372036854775808 ≤ k) (h1 : k ≤ 9223372036854775807) (h : p.length ≤ 9223372036854775807) : (litE k p).Wf :=
  ⟨h0, h1, h, fun x hx => (by cases hx), by simp [litE], by simp [litE], by simp [litE], by simp [litE], fun x hx => (by cases hx)⟩
theorem fileE_wf {p : Bytes} (h : p.length ≤ 9223372036854775807) : (fileE p).Wf :=
  ⟨by simp [fileE], by simp [fileE], h, fun x hx => (by cases hx), by simp [fileE], by simp [fileE], by simp [fileE], by simp [fileE, digF], fun x hx => (by cases hx)⟩

def tE1 : Ent := litE 2 [97]
def tE2 : Ent := fileE [97, 47, 98]
def tE3 : Ent := litE 4 [97]
def tE4 : Ent := fileE [97, 47, 98, 47, 99]
set_option maxRecDepth 100000 in
theorem al1 : applyT [] tE1 = ([tE1], 0) := by decide +kernel
set_option maxRecDepth 100000 in
theorem al2 : applyT [tE1] tE2 = ([tE1, tE2], 0) := by decide +kernel
set_option maxRecDepth 100000 in
theorem al3 : applyT [tE1, tE2] tE3 = ([], 0) := by decide +kernel
set_option maxRecDepth 100000 in
theorem al4 : applyT [tE1] tE4 = ([], 9) := by decide +kernel
set_option maxRecDepth 100000 in
theorem al5 : applyT [tE1, tE2] tE4 = ([], 10) := by decide +kernel
theorem sm1 : SmlT [tE1] := fun x hx => by rw [List.mem_singleton.1 hx]; simp [tE1, litE]
theorem sm2 : SmlT [tE1, tE2] := fun x hx => by
  rcases List.mem_cons.1 hx with rfl | hx
  · simp [tE1, litE]
  · rw [List.mem_singleton.1 hx]; simp [tE2, fileE]
theorem sr1 : SrtT [tE1] := List.pairwise_singleton _ _
theorem sr2 : SrtT [tE1, tE2] := List.pairwise_cons.2 ⟨fun x hx => by rw [List.mem_singleton.1 hx]; decide +kernel, List.pairwise_singleton _ _⟩

theorem RdS.sl {α : Type} {T : Ty α} {I : IH} {v : Value} {l : List α} (h : RdS T I v l) {n : Nat} (hn : l.length = n) : ∃ ao cap, v = .slice ao n cap := by
  obtain ⟨ao, cap, rfl, _⟩ := h
  exact ⟨ao, cap, by rw [hn]⟩

theorem dt_Apply_at {l : List Ent} {n : Int} (I : IH) (hI : Glob I) (v : Value) (t : List Ent) (hv : RdS tEnt I v t) (hs : SmlT t) (hsr : SrtT t) (hn : t.length ≤ 100000) (e : Ent) (va vx : Value) (hva : RdS tAt I va e.attrs) (hvx : RdS tXt I vx e.exts) (hwf : e.Wf) (hpl : e.path.length ≤ 4294967280) (htl : e.target.length ≤ 4294967280) (h : applyT t e = (l, n)) (w : World) (hw : Ok I w) :
    Calls Tryz.prog 15 #[v, entV e va vx] w (RetL tEnt I w l n) := by
  have := dt_Apply I hI v t hv hs hsr hn e va vx hva hvx hwf hpl htl w hw
  rwa [h] at this

set_option maxRecDepth 100000 in
set_option maxHeartbeats 1000000 in
theorem law_File (p : Bytes) (w : World) :
    Calls Tryz.prog 33 #[S p] w fun e w' => e = .returned (entV (fileE p) nilV nilV) ∧ Below w.heap.size w w' := by
  have hi4 : (Tryz.prog.info? 26).map (·.size) = some (entRow (fileE p) nilV nilV).size := by kernel_rfl
  have ho4 : (entRow (fileE p) nilV nilV).all (·.oneCell') = true := by simp [Value.oneCell', fileE]
  go_enter Tryz.func33, Tryz.ntmps33
  go_wp2_with (refine wpList_store_row rfl 26 _ _ rfl w.heap.size (entRow (fileE p) nilV nilV) rfl rfl 26 zeroRow (heap_alloc_new w _) hi4 rfl ho4 ?_)
  try simp only [Exit.inBlock, Exit.then]
  refine bodyPost_ret (results_cell_row rfl _ _ w.heap.size _ (entRow (fileE p) nilV nilV) (0, 0) _ rfl (setRow_heap _ _ _ _ _ _ (heap_alloc_new w _)) Tryz.underlying26 rfl hi4) rfl ⟨rfl, below_setRow ((Below.refl _ _).alloc (Nat.le_refl _) _) (Nat.le_refl _) _⟩

set_option maxRecDepth 100000 in
set_option maxHeartbeats 1000000 in
theorem law_small (I : IH) (x : Ent) (va vx : Value) (hva : RdS tAt I va x.attrs) (hvx : RdS tXt I vx x.exts) (hwf : x.Wf) (w : World) (hw : Ok I w) :
    Calls Tryz.prog 14 #[entV x va vx] w fun e w' => e = .returned (.bool (!greatE x)) ∧ Below w.heap.size w w' := by
  have Hgr := Lib.hid (fun w hw => ref36_Great I x va vx hva hvx hwf w hw)
  obtain ⟨aa, ca, rfl, _, _, _⟩ := id hva
  obtain ⟨ax, cx, rfl, _, _, _⟩ := id hvx
  have hg : (grE x = 1 ∧ greatE x = true) ∨ (grE x = 0 ∧ greatE x = false) := by
    unfold grE
    cases greatE x
    · exact .inr ⟨rfl, rfl⟩
    · exact .inl ⟨rfl, rfl⟩
  clear hva hvx
  generalize grE x = g at Hgr hg
  generalize greatE x = b at hg ⊢
  rcases hg with ⟨rfl, rfl⟩ | ⟨rfl, rfl⟩
  all_goals
    go_enter Tryz.func14, Tryz.ntmps14
    go_wp2_with fail
    refine (Hgr.out _ (hw.alloc _)).mono ?_
    rintro e w1 ⟨rfl, hb1⟩
    go_wp2
    go_ret
    exact ⟨rfl, ((Below.refl _ _).alloc (Nat.le_refl _) _).trans (hb1.mono (by simp))⟩

set_option maxRecDepth 100000 in
set_option maxHeartbeats 2000000 in
theorem law_alive37 (I : IH) (hI : Glob I) (w : World) (hw : Ok I w) :
    Calls Tryz.prog 12 #[] w fun e w' => e = .returned (.bool true) ∧ Below w.heap.size w w' := by
  have HI := Lib.hid hI; clear hI
  have H1 := Lib.hid (dt_Apply_at I HI.out _ [] (RdS.nil _ _) (fun _ h => (by cases h)) List.Pairwise.nil (by decide) tE1 nilV nilV (RdS.nil _ _) (RdS.nil _ _) (litE_wf (by decide) (by decide) (by decide)) (by decide) (by decide) al1 w hw)
  go_enter Tryz.func12, Tryz.ntmps12
  go_wp2_with fail
  refine H1.out.mono ?_
  rintro e w1 ⟨v1, I1, rfl, hb1, hx1, hok1, hr1⟩
  obtain ⟨a1, c1, rfl⟩ := hr1.sl (n := 1) rfl
  have Hr1 := Lib.hid hr1
  have HI1 := Lib.hid (HI.out.mono fun b c h => hx1.keep hw (Nat.le_refl _) b c h)
  clear hr1 hx1 H1 HI
  have hs1 := hb1.size
  go_wp2_with fail
  refine (law_File [97, 47, 98] _).mono ?_
  rintro e w2 ⟨rfl, hb2⟩
  have hok2 := hok1.below (Nat.le_refl _) hb2
  have hb2' := hb1.trans (hb2.mono hs1)
  have hs2 := hb2'.size
  clear hb1 hb2
  go_wp2_with fail
  refine (dt_Apply_at I1 HI1.out _ [tE1] Hr1.out sm1 sr1 (by decide) tE2 nilV nilV (RdS.nil _ _) (RdS.nil _ _) (fileE_wf (by decide)) (by decide) (by decide) al2 _ hok2).mono ?_
  rintro e w3 ⟨v3, I3, rfl, hb3, hx3, hok3, hr3⟩
  obtain ⟨a3, c3, rfl⟩ := hr3.sl (n := 2) rfl
  have Hr3 := Lib.hid hr3
  have HI3 := Lib.hid (HI1.out.mono fun b c h => hx3.keep hok2 (Nat.le_refl _) b c h)
  have Hr1 := Lib.hid (Hr1.out.mono (hx3.keep hok2 (Nat.le_refl _)))
  have hb3' := hb2'.trans (hb3.mono hs2)
  have hs3 := hb3'.size
  clear hr3 hx3 HI1 hb2' hb3
  go_wp2_with fail
  refine (dt_Apply_at I3 HI3.out _ [tE1, tE2] Hr3.out sm2 sr2 (by decide) tE3 nilV nilV (RdS.nil _ _) (RdS.nil _ _) (litE_wf (by decide) (by decide) (by decide)) (by decide) (by decide) al3 _ hok3).mono ?_
  rintro e w4 ⟨v4, I4, rfl, hb4, hx4, hok4, hr4⟩
  obtain ⟨a4, c4, rfl⟩ := hr4.sl (n := 0) rfl
  have HI4 := Lib.hid (HI3.out.mono fun b c h => hx4.keep hok3 (Nat.le_refl _) b c h)
  have Hr1 := Lib.hid (Hr1.out.mono (hx4.keep hok3 (Nat.le_refl _)))
  have Hr3 := Lib.hid (Hr3.out.mono (hx4.keep hok3 (Nat.le_refl _)))
  have hb4' := hb3'.trans (hb4.mono hs3)
  have hs4 := hb4'.size
  clear hr4 hx4 HI3 hb3' hb4
  go_wp2_with fail
  refine (law_File [97, 47, 98, 47, 99] _).mono ?_
  rintro e w5 ⟨rfl, hb5⟩
  have hok5 := hok4.below (Nat.le_refl _) hb5
  have hb5' := hb4'.trans (hb5.mono hs4)
  have hs5 := hb5'.size
  clear hb4' hb5
  go_wp2_with fail
  refine (dt_Apply_at I4 HI4.out _ [tE1] Hr1.out sm1 sr1 (by decide) tE4 nilV nilV (RdS.nil _ _) (RdS.nil _ _) (fileE_wf (by decide)) (by decide) (by decide) al4 _ hok5).mono ?_
  rintro e w6 ⟨v6, I6, rfl, hb6, hx6, hok6, hr6⟩
  obtain ⟨a6, c6, rfl⟩ := hr6.sl (n := 0) rfl
  have HI6 := Lib.hid (HI4.out.mono fun b c h => hx6.keep hok5 (Nat.le_refl _) b c h)
  have Hr3 := Lib.hid (Hr3.out.mono (hx6.keep hok5 (Nat.le_refl _)))
  have hb6' := hb5'.trans (hb6.mono hs5)
  have hs6 := hb6'.size
  clear hr6 hx6 HI4 hb5' hb6
  go_wp2_with fail
  refine (law_File [97, 47, 98, 47, 99] _).mono ?_
  rintro e w7 ⟨rfl, hb7⟩
  have hok7 := hok6.below (Nat.le_refl _) hb7
  have hb7' := hb6'.trans (hb7.mono hs6)
  have hs7 := hb7'.size
  clear hb6' hb7
  go_wp2_with fail
  refine (dt_Apply_at I6 HI6.out _ [tE1, tE2] Hr3.out sm2 sr2 (by decide) tE4 nilV nilV (RdS.nil _ _) (RdS.nil _ _) (fileE_wf (by decide)) (by decide) (by decide) al5 _ hok7).mono ?_
  rintro e w8 ⟨v8, I8, rfl, hb8, hx8, hok8, hr8⟩
  obtain ⟨a8, c8, rfl⟩ := hr8.sl (n := 0) rfl
  have hb8' := hb7'.trans (hb8.mono hs7)
  go_wp2
  go_ret
  exact ⟨rfl, hb8'⟩

theorem right_cases (t : List Ent) : rightT t = 0 ∨ (rightT t = 1 ∧ t.length ≤ 60 ∧ OkT t ∧ ∀ x ∈ t, greatE x = false) := by
  unfold rightT
  by_cases h1 : 60 < t.length
  · rw [if_pos h1]; exact .inl rfl
  · rw [if_neg h1]
    by_cases h2 : chkTR t = 0
    case neg => rw [if_pos h2]; exact .inl rfl
    rw [if_neg (by omega)]
    cases h3 : t.any greatE
    case true => exact .inl rfl
    have hg : ∀ x ∈ t, greatE x = false := fun x hx => by
      cases h : greatE x with
      | false => rfl
      | true => exact absurd (List.any_eq_true.2 ⟨x, hx, h⟩) (by rw [h3]; simp)
    refine .inr ⟨rfl, by omega, (chkT_eq t).1 ?_, hg⟩
    rw [← chkTR_eq fun x hx => ?_, h2]
    have := hg x hx
    simp [greatE] at this
    omega
theorem great_no {x : Ent} (h : greatE x = false) : x.path.length ≤ 300 ∧ x.target.length ≤ 300 ∧ x.digest.length ≤ 100 ∧ x.exts.length ≤ 30 := by
  simp [greatE] at h
  omega
theorem sml_of {t : List Ent} (h : ∀ x ∈ t, greatE x = false) : SmlT t := fun x hx => by
  have := great_no (h x hx)
  omega
end Go.Proofs.YtcbmdghnlbieeaaGreatDoor
namespace Go.Proofs.YtcbmdghnlbieeaaGreatDoor
open Go.ChangeShapes Go.WideShapes Go.ChangeAt Go.RowKit

theorem own : ownKnob Tryz.prog.godebug = none := by kernel_rfl
theorem laidOut : laidOutB Tryz.prog = true := by kernel_rfl

set_option maxRecDepth 100000 in
theorem at_opens : Opens Tryz.prog 90 tAt At.Wf := by
  refine ⟨by kernel_rfl, by decide, fun {H enc w base spare held fuel cs x} h => ?_⟩
  obtain ⟨xs, n, _, _, hl, hxl, hf⟩ := DataW.trod_struct Tryz.underlying90 h
  have hc : Tryz.prog.cellsOf 90 = 2 := by kernel_rfl
  have c3 : Tryz.prog.cellsOf 9 = 1 := by kernel_rfl
  rw [hc] at hl
  obtain ⟨a, b, rfl⟩ := list2 hl
  simp at hxl
  have h0 := hf 0 _ rfl
  have h1 := hf 1 _ rfl
  rw [List.getElem?_eq_getElem (by omega)] at h0 h1
  simp [c3] at h0 h1
  obtain ⟨s, e0, _, w0⟩ := DataW.trod_string Tryz.underlying9 h0
  obtain ⟨t, e1, _, w1⟩ := DataW.trod_string Tryz.underlying9 h1
  cases e0; cases e1
  have k4 : maxLen = 9223372036854775807 := rfl
  have hsz : s.data.toList.length = s.size := Array.length_toList
  have htz : t.data.toList.length = t.size := Array.length_toList
  refine ⟨⟨s.data.toList, t.data.toList⟩, ?_, ?_⟩
  · rfl
  · exact ⟨by show s.data.toList.length ≤ _; omega, by show t.data.toList.length ≤ _; omega⟩

set_option maxRecDepth 100000 in
theorem xt_opens : Opens Tryz.prog 69 tXt Xt.Wf := by
  refine ⟨by kernel_rfl, by decide, fun {H enc w base spare held fuel cs x} h => ?_⟩
  obtain ⟨xs, n, _, _, hl, hxl, hf⟩ := DataW.trod_struct Tryz.underlying69 h
  have hc : Tryz.prog.cellsOf 69 = 3 := by kernel_rfl
  have c2 : Tryz.prog.cellsOf 3 = 1 := by kernel_rfl
  rw [hc] at hl
  obtain ⟨a, b, c, rfl⟩ := list3 hl
  simp at hxl
  have h0 := hf 0 _ rfl
  have h1 := hf 1 _ rfl
  have h2 := hf 2 _ rfl
  rw [List.getElem?_eq_getElem (by omega)] at h0 h1 h2
  simp [c2] at h0 h1 h2
  obtain ⟨i, e0, _, w0⟩ := DataW.trod_int Tryz.underlying3 h0
  obtain ⟨j, e1, _, w1⟩ := DataW.trod_int Tryz.underlying3 h1
  obtain ⟨k, e2, _, w2⟩ := DataW.trod_int Tryz.underlying3 h2
  cases e0; cases e1; cases e2
  rw [Go.Lit.wf_int_iff] at w0 w1 w2
  have k2 : IntKind.i64.min = -9223372036854775808 := rfl
  have k3 : IntKind.i64.max = 9223372036854775807 := rfl
  refine ⟨⟨i, j, k⟩, rfl, ⟨?_, ?_⟩, ⟨?_, ?_⟩, ⟨?_, ?_⟩⟩
  · show _ ≤ i; omega
  · show i ≤ _; omega
  · show _ ≤ j; omega
  · show j ≤ _; omega
  · show _ ≤ k; omega
  · show k ≤ _; omega

theorem list7 {α : Type} : ∀ {l : List α}, l.length = 7 → ∃ a b c d e f g, l = [a, b, c, d, e, f, g]
  | [a, b, c, d, e, f, g], _ => ⟨a, b, c, d, e, f, g, rfl⟩

set_option maxRecDepth 100000 in
theorem ent_opens : Opens Tryz.prog 26 tEnt Ent.Wf := by
  refine ⟨by kernel_rfl, by decide, fun {H enc w base spare held fuel cs x} h => ?_⟩
  obtain ⟨xs, n, _, _, hl, hxl, hf⟩ := DataW.trod_struct Tryz.underlying26 h
  have hc : Tryz.prog.cellsOf 26 = 7 := by kernel_rfl
  have c2 : Tryz.prog.cellsOf 3 = 1 := by kernel_rfl
  have c3 : Tryz.prog.cellsOf 9 = 1 := by kernel_rfl
  have c4 : Tryz.prog.cellsOf 23 = 1 := by kernel_rfl
  have c5 : Tryz.prog.cellsOf 24 = 1 := by kernel_rfl
  rw [hc] at hl
  obtain ⟨u0, u1, u2, u3, u4, u5, u6, rfl⟩ := list7 hl
  simp at hxl
  have h0 := hf 0 _ rfl
  have h1 := hf 1 _ rfl
  have h2 := hf 2 _ rfl
  have h3 := hf 3 _ rfl
  have h4 := hf 4 _ rfl
  have h5 := hf 5 _ rfl
  have h6 := hf 6 _ rfl
  rw [List.getElem?_eq_getElem (by omega)] at h0 h1 h2 h3 h4 h5 h6
  simp [c2, c3, c4, c5] at h0 h1 h2 h3 h4 h5 h6
  obtain ⟨i0, e0, _, w0⟩ := DataW.trod_int Tryz.underlying3 h0
  obtain ⟨s1, e1, _, w1⟩ := DataW.trod_string Tryz.underlying9 h1
  obtain ⟨v2, l2, e2, r2, m2⟩ := at_opens.slice Tryz.underlying23 h2
  obtain ⟨s3, e3, _, w3⟩ := DataW.trod_string Tryz.underlying9 h3
  obtain ⟨i4, e4, _, w4⟩ := DataW.trod_int Tryz.underlying3 h4
  obtain ⟨s5, e5, _, w5⟩ := DataW.trod_string Tryz.underlying9 h5
  obtain ⟨v6, l6, e6, r6, m6⟩ := xt_opens.slice Tryz.underlying24 h6
  cases e0; cases e1; cases e2; cases e3; cases e4; cases e5; cases e6
  rw [Go.Lit.wf_int_iff] at w0 w4
  have k2 : IntKind.i64.min = -9223372036854775808 := rfl
  have k3 : IntKind.i64.max = 9223372036854775807 := rfl
  have k4 : maxLen = 9223372036854775807 := rfl
  have z1 : s1.data.toList.length = s1.size := Array.length_toList
  have z3 : s3.data.toList.length = s3.size := Array.length_toList
  have z5 : s5.data.toList.length = s5.size := Array.length_toList
  refine ⟨⟨i0, s1.data.toList, l2, s3.data.toList, i4, s5.data.toList, l6⟩, ⟨u2, u6, rfl, r2, r6⟩, ?_, ?_, ?_, m2, ?_, ?_, ?_, ?_, m6⟩
  · show _ ≤ i0; omega
  · show i0 ≤ _; omega
  · show s1.data.toList.length ≤ _; omega
  · show s3.data.toList.length ≤ _; omega
  · show _ ≤ i4; omega
  · show i4 ≤ _; omega
  · show s5.data.toList.length ≤ _; omega

set_option maxRecDepth 100000 in
theorem ent_arg {H : Type} {enc : TypeId × Value → H} {w : World} {r : Reach} {b0 base : Nat} {spare : Nat → Bool} {held : Bool} {v : Value} {d : DataW H} {ps : List MemPlace} (hv : Value.okWide Tryz.prog w r b0 26 v) (h : DataW.Trod enc Tryz.prog w base spare held 26 v d ps) :
    ∃ (e : Ent) (va vx : Value), v = entV e va vx ∧ RdS tAt (HeapI w) va e.attrs ∧ RdS tXt (HeapI w) vx e.exts ∧ e.Wf := by
  obtain ⟨cs, rfl, hsz⟩ := okWide_struct Tryz.underlying26 hv
  obtain ⟨fuel, hf⟩ := h
  obtain ⟨e, ⟨va, vx, hcs, h1, h2⟩, hwf⟩ := ent_opens.2.2 hf
  refine ⟨e, va, vx, ?_, h1, h2, hwf⟩
  have hcs' : cs.toList = entCs e va vx := hcs
  show Value.agg cs = _
  rw [← Array.toArray_toList (xs := cs), hcs']

theorem laid_iface {P : Program} {n nm : String} {d : DataW Unit} {r : List (String × DataW Unit)} {W : World} {g : Nat} {ti : TypeId} {ms : Array (String × TypeId)}
    (h : laidMet P ((n, .iface nm d) :: r) W) (hg : P.globalNamed n = some g) (ht : (P.globals[g]?).map (·.type) = some ti) (hi : P.underlying ti = some (.interface ms)) :
    ∃ tp p, W.var? P n = some #[.iface tp p] := by
  obtain ⟨ps, ⟨g0, t0, cs0, f0, p0, q0, hg0, ht0, hv0, hd0, _, e0⟩, _, hrows⟩ := h
  obtain rfl := Option.some.inj (hg.symm.trans hg0)
  obtain rfl := Option.some.inj (ht.symm.trans ht0)
  subst e0
  obtain ⟨l0⟩ := cs0
  obtain ⟨f1, u, v, hcs, _, _⟩ := iface_of_trod hi hd0
  have hcs' : l0 = [.iface u v] := hcs
  subst hcs'
  exact ⟨u, v, hv0⟩

theorem glob_of_laid {W : World} (h : laidMetH Tryz.prog Rows.dirtreeAppliesRow.laid W) (hsh : W.ShapedOpen Tryz.prog) : Glob (HeapI W) := by
  rw [MakeChecks.laidMetH_plain _ _ _ (by kernel_rfl)] at h
  have h2 : Lib.TabIs Tryz.prog W "internal/strconv.uint64pow10" .u64 Lib.pow10Tab :=
    Lib.tabIs_of_head (t := 191) (e := 105) (n := 20) (g := 1) (rest := (Rows.dirtreeAppliesRow.laid).drop 3) (by kernel_rfl) (by kernel_rfl) Tryz.underlying191 Tryz.underlying105 (by kernel_rfl) (by kernel_rfl) h.tail.tail
  obtain ⟨tp1, p1, h3⟩ := laid_iface (ti := 96) (g := 3) h.tail.tail.tail.tail (by kernel_rfl) (by kernel_rfl) Tryz.underlying96
  obtain ⟨tp2, p2, h4⟩ := laid_iface (ti := 96) (g := 2) h.tail.tail.tail.tail.tail (by kernel_rfl) (by kernel_rfl) Tryz.underlying96
  obtain ⟨m, hm⟩ := cell_of_shapedOpen_int (g := 0) (zero := #[.int .i64 0]) (t := 3) hsh (of_decide_eq_true (by kernel_rfl)) (by kernel_rfl) rfl (by kernel_rfl) (by kernel_rfl) Tryz.underlying3
  obtain ⟨_, c, hc1, hc2⟩ := HeapI.of_cell hm
  exact ⟨HeapI.of_var (by kernel_rfl) h2, ⟨c, m, hc1, hc2⟩, ⟨tp2, p2, HeapI.of_var (by kernel_rfl) h4⟩, ⟨tp1, p1, HeapI.of_var (by kernel_rfl) h3⟩⟩

section
variable {H : Type} {enc : TypeId × Value → H}
/-- The wrap with a premise of one's own, that hands on the world's shape. -/
theorem handed_shaped {a : Assume} {C : Checked} {os : Os} {f : FuncId} {fn : Func} {s : ChangeSpec} {conds : List PathCond} {apart fresh handsOn again : Bool} {X : World → Array Value → Prop}
    (hX : ∀ (w w' : World) (args : Array Value), w.heap = w'.heap → X w args → X w' args)
    (own : ownKnob C.prog.godebug = none) (started : os.Started) (noInit : C.prog.inits.idxOf? f = none) (hfn : C.prog.funcs[f]? = some fn)
    (witness : ∃ (w : World) (tape : Tape) (i : Input), w.os = os ∧ (w.forCall tape i).Shaped C.prog ∧ i.vars = [] ∧ Input.okWide C.prog (w.forCall tape i) .any w.heap.size f i ∧
      ((s.pre enc C.prog fn conds apart (w.forCall tape i).memory i.args ∧ X (w.forCall tape i).memory i.args) ∧ sizedMet enc C.prog fn (OpenSpec.ofChange s) apart (w.forCall tape i).memory i.args) ∧ a.holds C.prog (lone (Frame.enter C.prog f i.args .normal) [] (w.forCall tape i)))
    (contract : ∀ (W : World) (base : Nat) (args : Array Value) (ds gs : List (DataW H)) (before : List MemPlace),
      (∀ (j : Nat) t v, fn.params[j]? = some t → args[j]? = some v → Value.okWide C.prog W .any base t v) →
      DataW.Whole enc C.prog fn.params.toList s.vars apart W args.toList ds gs before →
      W.ShapedOpen C.prog → X W args →
      Calls C.prog f args W fun e W' => ∃ v, e = .returned v ∧ s.post enc C.prog fn apart fresh handsOn again W args v W') :
    ReturnsInHanded a C os f .any (fun w args => (s.pre enc C.prog fn conds apart w args ∧ X w args) ∧ sizedMet enc C.prog fn (OpenSpec.ofChange s) apart w args) (s.post enc C.prog fn apart fresh handsOn again) := by
  refine returnsInHanded_of_calls own started noInit witness ?_
  intro w tape i _ hsh _ hok hpre hholds
  obtain ⟨_, _, _, fn', hfn', _, _, _, _, hval⟩ := hok
  have e : fn' = fn := Option.some.inj (hfn'.symm.trans hfn)
  subst e
  obtain ⟨⟨⟨ds, gs, before, hw, hc⟩, hx⟩, hz⟩ := hpre
  have hw' := DataW.Whole.of_heap (w' := w.forCall tape i) (by rfl) hw
  refine (contract (w.forCall tape i) w.heap.size i.args ds gs before hval hw' hsh (hX _ _ _ (by rfl) hx)).mono fun e W' ⟨v, he, hp⟩ => ?_
  subst he
  exact ChangeSpec.post_blind hp
end

theorem str_one {P : Program} {w : World} {r : Reach} {b0 : Nat} {t : TypeId} {v : Value} (ht : P.underlying t = some .string) (hv : Value.okWide P w r b0 t v) : ∃ s : Bytes, v = S s := by
  obtain ⟨s, rfl⟩ := okWide_string ht hv
  exact ⟨s.data.toList, by rw [S, mk_eta]⟩
end Go.Proofs.YtcbmdghnlbieeaaGreatDoor
