/-
  Walks of the reference's layer 36: target, Great.
-/
import Derived.Test.YtcbmdghnlbieeaaGreatDoorEnA
import Derived.Test.YtcbmdghnlbieeaaGreatDoorAtC
namespace Go.Proofs.YtcbmdghnlbieeaaGreatDoor
open Go.RowKit

set_option maxRecDepth 100000 in
set_option maxHeartbeats 400000 in
theorem ref36_target (x : Ent) (hx : x.target.length ≤ 9223372036854775807) (va vx : Value) (w : World) :
    Calls Tryz.prog 85 #[entV x va vx] w fun e w' => e = .returned (.bool (targetOk x)) ∧ Below w.heap.size w w' := by
  by_cases h3 : x.kind = 3
  · have f3 : ((x.kind : Int) == 3) = true := by simpa using h3
    by_cases h1 : 1 ≤ x.target.length
    case neg =>
      have d1 : decide (1 ≤ x.target.length) = false := decide_eq_false h1
      have Ht := Lib.hid (show targetOk x = false by rw [targetOk, if_pos h3, d1]; rfl)
      clear h3
      go_enter Tryz.func85, Tryz.ntmps85
      go_wp2
      go_ret
      exact ⟨ret_b Ht.out.symm, (Below.refl _ _).alloc (Nat.le_refl _) _⟩
    have d1 : decide (1 ≤ x.target.length) = true := decide_eq_true h1
    have Ht := Lib.hid (show targetOk x = decide (x.target.length ≤ 200) by rw [targetOk, if_pos h3, d1]; rfl)
    clear h3
    go_enter Tryz.func85, Tryz.ntmps85
    go_wp2
    go_ret
    exact ⟨ret_b (by rw [Ht.out, decide_eq_decide]; omega), (Below.refl _ _).alloc (Nat.le_refl _) _⟩
  have f3 : ((x.kind : Int) == 3) = false := by simpa using h3
  by_cases h5 : x.kind = 5
  · have f5 : ((x.kind : Int) == 5) = true := by simpa using h5
    have Ht := Lib.hid (show targetOk x = (dateP x.target).2 by rw [targetOk, if_neg h3, if_pos h5, dateP_ok])
    clear h3 h5
    go_enter Tryz.func85, Tryz.ntmps85
    go_wp2_with fail
    refine (ref36_Date x.target hx _).mono ?_
    rintro e w1 ⟨rfl, hb1⟩
    go_wp2
    go_ret
    exact ⟨ret_b Ht.out.symm, ((Below.refl _ _).alloc (Nat.le_refl _) _).trans (hb1.mono (by simp))⟩
  have f5 : ((x.kind : Int) == 5) = false := by simpa using h5
  have Ht := Lib.hid (show targetOk x = x.target.isEmpty by rw [targetOk, if_neg h3, if_neg h5])
  clear h3 h5
  go_enter Tryz.func85, Tryz.ntmps85
  go_wp2
  go_ret
  exact ⟨ret_b (by rw [Ht.out]), (Below.refl _ _).alloc (Nat.le_refl _) _⟩

/-- Is an entry too large? -/
def greatE (x : Ent) : Bool := decide (300 < x.path.length) || decide (300 < x.target.length) || decide (100 < x.digest.length) || decide (30 < x.exts.length) || decide (greatA x.attrs = 1)
theorem greatA_cases (l : List At) : greatA l = 1 ∨ greatA l = 0 := by
  unfold greatA
  split
  · exact .inl rfl
  · split
    · exact .inl rfl
    · exact .inr rfl

def grE (x : Ent) : Int := if greatE x then 1 else 0

set_option maxRecDepth 100000 in
set_option maxHeartbeats 400000 in
theorem ref36_Great (I : IH) (x : Ent) (va vx : Value) (hva : RdS tAt I va x.attrs) (hvx : RdS tXt I vx x.exts) (hwf : x.Wf) (w : World) (hw : Ok I w) :
    Calls Tryz.prog 34 #[entV x va vx] w fun e w' => e = .returned (.int .i64 (grE x)) ∧ Below w.heap.size w w' := by
  obtain ⟨ao, cap, rfl, hcap, hcm, _⟩ := id hvx
  have hlx := hvx.len_le
  clear hvx
  by_cases h1 : 300 < x.path.length
  case pos =>
    have Hg := Lib.hid (show grE x = 1 by simp [grE, greatE, h1])
    go_enter Tryz.func34, Tryz.ntmps34
    go_wp2
    go_ret
    exact ⟨ret_i Hg.out.symm, (Below.refl _ _).alloc (Nat.le_refl _) _⟩
  by_cases h2 : 300 < x.target.length
  case pos =>
    have Hg := Lib.hid (show grE x = 1 by simp [grE, greatE, h2])
    go_enter Tryz.func34, Tryz.ntmps34
    go_wp2
    go_ret
    exact ⟨ret_i Hg.out.symm, (Below.refl _ _).alloc (Nat.le_refl _) _⟩
  by_cases h3 : 100 < x.digest.length
  case pos =>
    have Hg := Lib.hid (show grE x = 1 by simp [grE, greatE, h3])
    go_enter Tryz.func34, Tryz.ntmps34
    go_wp2
    go_ret
    exact ⟨ret_i Hg.out.symm, (Below.refl _ _).alloc (Nat.le_refl _) _⟩
  by_cases h4 : 30 < x.exts.length
  case pos =>
    have Hg := Lib.hid (show grE x = 1 by simp [grE, greatE, h4])
    go_enter Tryz.func34, Tryz.ntmps34
    go_wp2
    go_ret
    exact ⟨ret_i Hg.out.symm, (Below.refl _ _).alloc (Nat.le_refl _) _⟩
  have Hg := Lib.hid (show grE x = if greatA x.attrs = 1 then 1 else 0 by simp [grE, greatE, h1, h2, h3, h4])
  have Hgr := Lib.hid (fun w hw => ref32_Great I va x.attrs hva hwf.attrs w hw)
  clear hva
  rcases greatA_cases x.attrs with hg | hg
  · rw [hg] at Hg Hgr
    clear hg
    go_enter Tryz.func34, Tryz.ntmps34
    go_wp2_with fail
    refine (Hgr.out _ (hw.alloc _)).mono ?_
    rintro e w1 ⟨rfl, hb1⟩
    go_wp2
    go_ret
    exact ⟨ret_i Hg.out.symm, ((Below.refl _ _).alloc (Nat.le_refl _) _).trans (hb1.mono (by simp))⟩
  · rw [hg] at Hg Hgr
    clear hg
    go_enter Tryz.func34, Tryz.ntmps34
    go_wp2_with fail
    refine (Hgr.out _ (hw.alloc _)).mono ?_
    rintro e w1 ⟨rfl, hb1⟩
    go_wp2
    go_ret
    exact ⟨ret_i Hg.out.symm, ((Below.refl _ _).alloc (Nat.le_refl _) _).trans (hb1.mono (by simp))⟩
end Go.Proofs.YtcbmdghnlbieeaaGreatDoor
