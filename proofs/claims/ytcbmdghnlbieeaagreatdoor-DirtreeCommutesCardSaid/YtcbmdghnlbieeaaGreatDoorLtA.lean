/-
  The laws of layer 37: File, small, alive: their walks.
-/
import Derived.Test.YtcbmdghnlbieeaaGreatDoorEnI
import Derived.Test.YtcbmdghnlbieeaaGreatDoorPtF
namespace Go.Proofs.YtcbmdghnlbieeaaGreatDoor
open Go.RowKit

def digF : Bytes := [48, 49, 50, 51, 52, 53, 54, 55, 56, 57, 97, 98, 99, 100, 101, 102, 48, 49, 50, 51, 52, 53, 54, 55, 56, 57, 97, 98, 99, 100, 101, 102]
def fileE (p : Bytes) : Ent := ⟨1, p, [], [], 0, digF, []⟩
abbrev nilV : Value := .slice none 0 0
def litE (k : Int) (p : Bytes) : Ent := ⟨k, p, [], [], 0, [], []⟩
theorem litE_wf {k : Int} {p : Bytes} (h0 : -9223372036854775808 ≤ k) (h1 : k ≤ 9223372036854775807) (h : p.length ≤ 9223372036854775807) : (litE k p).Wf :=
  ⟨h0, h1, h, fun x hx => (by cases hx), by simp [litE], by simp [litE], by simp [litE], by simp [litE], fun x hx => (by cases hx)⟩
theorem fileE_wf {p : Bytes} (h : p.length ≤ 9223372036854775807) : (fileE p).Wf :=
  ⟨by simp [fileE], by simp [fileE], h, fun x hx => (by cases hx), by simp [fileE], by simp [fileE], by simp [fileE], by simp [fileE, digF], fun x hx => (by cases hx)⟩

def tE1 : Ent := litE 2 [97]
def tE2 : Ent := fileE [97, 47, 98]
def tE3 : Ent := litE 4 [97]
def tE4 : Ent := fileE [97, 47, 98, 47, 99]
set_option maxRecDepth 100000 in
theorem al1 : applyT [] tE1 = ([tE1], 0) := by decide +kernel
set_option maxRecDepth 100000 in
theorem al2 : applyT [tE1] tE2 = ([tE1, tE2], 0) := by decide +kernel
set_option maxRecDepth 100000 in
theorem al3 : applyT [tE1, tE2] tE3 = ([], 0) := by decide +kernel
set_option maxRecDepth 100000 in
theorem al4 : applyT [tE1] tE4 = ([], 9) := by decide +kernel
set_option maxRecDepth 100000 in
theorem al5 : applyT [tE1, tE2] tE4 = ([], 10) := by decide +kernel
theorem sm1 : SmlT [tE1] := fun x hx => by rw [List.mem_singleton.1 hx]; simp [tE1, litE]
theorem sm2 : SmlT [tE1, tE2] := fun x hx => by
  rcases List.mem_cons.1 hx with rfl | hx
  · simp [tE1, litE]
  · rw [List.mem_singleton.1 hx]; simp [tE2, fileE]
theorem sr1 : SrtT [tE1] := List.pairwise_singleton _ _
theorem sr2 : SrtT [tE1, tE2] := List.pairwise_cons.2 ⟨fun x hx => by rw [List.mem_singleton.1 hx]; decide +kernel, List.pairwise_singleton _ _⟩

theorem RdS.sl {α : Type} {T : Ty α} {I : IH} {v : Value} {l : List α} (h : RdS T I v l) {n : Nat} (hn : l.length = n) : ∃ ao cap, v = .slice ao n cap := by
  obtain ⟨ao, cap, rfl, _⟩ := h
  exact ⟨ao, cap, by rw [hn]⟩

theorem dt_Apply_at {l : List Ent} {n : Int} (I : IH) (hI : Glob I) (v : Value) (t : List Ent) (hv : RdS tEnt I v t) (hs : SmlT t) (hsr : SrtT t) (hn : t.length ≤ 100000) (e : Ent) (va vx : Value) (hva : RdS tAt I va e.attrs) (hvx : RdS tXt I vx e.exts) (hwf : e.Wf) (hpl : e.path.length ≤ 4294967280) (htl : e.target.length ≤ 4294967280) (h : applyT t e = (l, n)) (w : World) (hw : Ok I w) :
    Calls Tryz.prog 15 #[v, entV e va vx] w (RetL tEnt I w l n) := by
  have := dt_Apply I hI v t hv hs hsr hn e va vx hva hvx hwf hpl htl w hw
  rwa [h] at this

set_option maxRecDepth 100000 in
set_option maxHeartbeats 1000000 in
theorem law_File (p : Bytes) (w : World) :
    Calls Tryz.prog 33 #[S p] w fun e w' => e = .returned (entV (fileE p) nilV nilV) ∧ Below w.heap.size w w' := by
  have hi4 : (Tryz.prog.info? 26).map (·.size) = some (entRow (fileE p) nilV nilV).size := by kernel_rfl
  have ho4 : (entRow (fileE p) nilV nilV).all (·.oneCell') = true := by simp [Value.oneCell', fileE]
  go_enter Tryz.func33, Tryz.ntmps33
  go_wp2_with (refine wpList_store_row rfl 26 _ _ rfl w.heap.size (entRow (fileE p) nilV nilV) rfl rfl 26 zeroRow (heap_alloc_new w _) hi4 rfl ho4 ?_)
  try simp only [Exit.inBlock, Exit.then]
  refine bodyPost_ret (results_cell_row rfl _ _ w.heap.size _ (entRow (fileE p) nilV nilV) (0, 0) _ rfl (setRow_heap _ _ _ _ _ _ (heap_alloc_new w _)) Tryz.underlying26 rfl hi4) rfl ⟨rfl, below_setRow ((Below.refl _ _).alloc (Nat.le_refl _) _) (Nat.le_refl _) _⟩

set_option maxRecDepth 100000 in
set_option maxHeartbeats 1000000 in
theorem law_small (I : IH) (x : Ent) (va vx : Value) (hva : RdS tAt I va x.attrs) (hvx : RdS tXt I vx x.exts) (hwf : x.Wf) (w : World) (hw : Ok I w) :
    Calls Tryz.prog 14 #[entV x va vx] w fun e w' => e = .returned (.bool (!greatE x)) ∧ Below w.heap.size w w' := by
  have Hgr := Lib.hid (fun w hw => ref36_Great I x va vx hva hvx hwf w hw)
  obtain ⟨aa, ca, rfl, _, _, _⟩ := id hva
  obtain ⟨ax, cx, rfl, _, _, _⟩ := id hvx
  have hg : (grE x = 1 ∧ greatE x = true) ∨ (grE x = 0 ∧ greatE x = false) := by
    unfold grE
    cases greatE x
    · exact .inr ⟨rfl, rfl⟩
    · exact .inl ⟨rfl, rfl⟩
  clear hva hvx
  generalize grE x = g at Hgr hg
  generalize greatE x = b at hg ⊢
  rcases hg with ⟨rfl, rfl⟩ | ⟨rfl, rfl⟩
  all_goals
    go_enter Tryz.func14, Tryz.ntmps14
    go_wp2_with fail
    refine (Hgr.out _ (hw.alloc _)).mono ?_
    rintro e w1 ⟨rfl, hb1⟩
    go_wp2
    go_ret
    exact ⟨rfl, ((Below.refl _ _).alloc (Nat.le_refl _) _).trans (hb1.mono (by simp))⟩

set_option maxRecDepth 100000 in
set_option maxHeartbeats 2000000 in
theorem law_alive37 (I : IH) (hI : Glob I) (w : World) (hw : Ok I w) :
    Calls Tryz.prog 12 #[] w fun e w' => e = .returned (.bool true) ∧ Below w.heap.size w w' := by
  have HI := Lib.hid hI; clear hI
  have H1 := Lib.hid (dt_Apply_at I HI.out _ [] (RdS.nil _ _) (fun _ h => (by cases h)) List.Pairwise.nil (by decide) tE1 nilV nilV (RdS.nil _ _) (RdS.nil _ _) (litE_wf (by decide) (by decide) (by decide)) (by decide) (by decide) al1 w hw)
  go_enter Tryz.func12, Tryz.ntmps12
  go_wp2_with fail
  refine H1.out.mono ?_
  rintro e w1 ⟨v1, I1, rfl, hb1, hx1, hok1, hr1⟩
  obtain ⟨a1, c1, rfl⟩ := hr1.sl (n := 1) rfl
  have Hr1 := Lib.hid hr1
  have HI1 := Lib.hid (HI.out.mono fun b c h => hx1.keep hw (Nat.le_refl _) b c h)
  clear hr1 hx1 H1 HI
  have hs1 := hb1.size
  go_wp2_with fail
  refine (law_File [97, 47, 98] _).mono ?_
  rintro e w2 ⟨rfl, hb2⟩
  have hok2 := hok1.below (Nat.le_refl _) hb2
  have hb2' := hb1.trans (hb2.mono hs1)
  have hs2 := hb2'.size
  clear hb1 hb2
  go_wp2_with fail
  refine (dt_Apply_at I1 HI1.out _ [tE1] Hr1.out sm1 sr1 (by decide) tE2 nilV nilV (RdS.nil _ _) (RdS.nil _ _) (fileE_wf (by decide)) (by decide) (by decide) al2 _ hok2).mono ?_
  rintro e w3 ⟨v3, I3, rfl, hb3, hx3, hok3, hr3⟩
  obtain ⟨a3, c3, rfl⟩ := hr3.sl (n := 2) rfl
  have Hr3 := Lib.hid hr3
  have HI3 := Lib.hid (HI1.out.mono fun b c h => hx3.keep hok2 (Nat.le_refl _) b c h)
  have Hr1 := Lib.hid (Hr1.out.mono (hx3.keep hok2 (Nat.le_refl _)))
  have hb3' := hb2'.trans (hb3.mono hs2)
  have hs3 := hb3'.size
  clear hr3 hx3 HI1 hb2' hb3
  go_wp2_with fail
  refine (dt_Apply_at I3 HI3.out _ [tE1, tE2] Hr3.out sm2 sr2 (by decide) tE3 nilV nilV (RdS.nil _ _) (RdS.nil _ _) (litE_wf (by decide) (by decide) (by decide)) (by decide) (by decide) al3 _ hok3).mono ?_
  rintro e w4 ⟨v4, I4, rfl, hb4, hx4, hok4, hr4⟩
  obtain ⟨a4, c4, rfl⟩ := hr4.sl (n := 0) rfl
  have HI4 := Lib.hid (HI3.out.mono fun b c h => hx4.keep hok3 (Nat.le_refl _) b c h)
  have Hr1 := Lib.hid (Hr1.out.mono (hx4.keep hok3 (Nat.le_refl _)))
  have Hr3 := Lib.hid (Hr3.out.mono (hx4.keep hok3 (Nat.le_refl _)))
  have hb4' := hb3'.trans (hb4.mono hs3)
  have hs4 := hb4'.size
  clear hr4 hx4 HI3 hb3' hb4
  go_wp2_with fail
  refine (law_File [97, 47, 98, 47, 99] _).mono ?_
  rintro e w5 ⟨rfl, hb5⟩
  have hok5 := hok4.below (Nat.le_refl _) hb5
  have hb5' := hb4'.trans (hb5.mono hs4)
  have hs5 := hb5'.size
  clear hb4' hb5
  go_wp2_with fail
  refine (dt_Apply_at I4 HI4.out _ [tE1] Hr1.out sm1 sr1 (by decide) tE4 nilV nilV (RdS.nil _ _) (RdS.nil _ _) (fileE_wf (by decide)) (by decide) (by decide) al4 _ hok5).mono ?_
  rintro e w6 ⟨v6, I6, rfl, hb6, hx6, hok6, hr6⟩
  obtain ⟨a6, c6, rfl⟩ := hr6.sl (n := 0) rfl
  have HI6 := Lib.hid (HI4.out.mono fun b c h => hx6.keep hok5 (Nat.le_refl _) b c h)
  have Hr3 := Lib.hid (Hr3.out.mono (hx6.keep hok5 (Nat.le_refl _)))
  have hb6' := hb5'.trans (hb6.mono hs5)
  have hs6 := hb6'.size
  clear hr6 hx6 HI4 hb5' hb6
  go_wp2_with fail
  refine (law_File [97, 47, 98, 47, 99] _).mono ?_
  rintro e w7 ⟨rfl, hb7⟩
  have hok7 := hok6.below (Nat.le_refl _) hb7
  have hb7' := hb6'.trans (hb7.mono hs6)
  have hs7 := hb7'.size
  clear hb6' hb7
  go_wp2_with fail
  refine (dt_Apply_at I6 HI6.out _ [tE1, tE2] Hr3.out sm2 sr2 (by decide) tE4 nilV nilV (RdS.nil _ _) (RdS.nil _ _) (fileE_wf (by decide)) (by decide) (by decide) al5 _ hok7).mono ?_
  rintro e w8 ⟨v8, I8, rfl, hb8, hx8, hok8, hr8⟩
  obtain ⟨a8, c8, rfl⟩ := hr8.sl (n := 0) rfl
  have hb8' := hb7'.trans (hb8.mono hs7)
  go_wp2
  go_ret
  exact ⟨rfl, hb8'⟩

theorem right_cases (t : List Ent) : rightT t = 0 ∨ (rightT t = 1 ∧ t.length ≤ 60 ∧ OkT t ∧ ∀ x ∈ t, greatE x = false) := by
  unfold rightT
  by_cases h1 : 60 < t.length
  · rw [if_pos h1]; exact .inl rfl
  · rw [if_neg h1]
    by_cases h2 : chkTR t = 0
    case neg => rw [if_pos h2]; exact .inl rfl
    rw [if_neg (by omega)]
    cases h3 : t.any greatE
    case true => exact .inl rfl
    have hg : ∀ x ∈ t, greatE x = false := fun x hx => by
      cases h : greatE x with
      | false => rfl
      | true => exact absurd (List.any_eq_true.2 ⟨x, hx, h⟩) (by rw [h3]; simp)
    refine .inr ⟨rfl, by omega, (chkT_eq t).1 ?_, hg⟩
    rw [← chkTR_eq fun x hx => ?_, h2]
    have := hg x hx
    simp [greatE] at this
    omega
theorem great_no {x : Ent} (h : greatE x = false) : x.path.length ≤ 300 ∧ x.target.length ≤ 300 ∧ x.digest.length ≤ 100 ∧ x.exts.length ≤ 30 := by
  simp [greatE] at h
  omega
theorem sml_of {t : List Ent} (h : ∀ x ∈ t, greatE x = false) : SmlT t := fun x hx => by
  have := great_no (h x hx)
  omega
end Go.Proofs.YtcbmdghnlbieeaaGreatDoor
