/-
  Walks of layer 31 (pathname): allowed, component, elements, Check, Split.
-/
import Derived.Test.YtcbmdghnlbieeaaGreatDoorPbA
namespace Go.Proofs.YtcbmdghnlbieeaaGreatDoor
open Go.RowKit

section
variable {α : Type}
def idxL (l : List α) (p : α → Bool) : Int := match l.findIdx? p with | some i => i | none => -1
theorem idxL_none {l : List α} {p : α → Bool} (h : l.any p = false) : idxL l p = -1 := by
  have : l.findIdx? p = none := by
    rw [List.findIdx?_eq_none_iff]
    intro x hx
    cases hp : p x with
    | false => rfl
    | true => rw [List.any_eq_true.2 ⟨x, hx, hp⟩] at h; exact absurd h (by simp)
  rw [idxL, this]
theorem idxL_some {l : List α} {p : α → Bool} {i : Nat} (hi : i < l.length) (hp : p l[i] = true) (hn : (l.take i).any p = false) : idxL l p = i := by
  have : l.findIdx? p = some i := by
    rw [List.findIdx?_eq_some_iff_getElem]
    refine ⟨hi, hp, fun j hj => ?_⟩
    cases hq : p l[j] with
    | false => simp
    | true =>
      have hjl : j < (l.take i).length := by simp; omega
      rw [List.any_eq_true.2 ⟨(l.take i)[j], List.getElem_mem hjl, by rw [List.getElem_take]; exact hq⟩] at hn
      exact absurd hn (by simp)
  rw [idxL, this]
theorem idxL_cases (l : List α) (p : α → Bool) : (∃ i : Nat, ∃ h : i < l.length, idxL l p = i ∧ p l[i] = true ∧ (l.take i).any p = false) ∨ (idxL l p = -1 ∧ l.any p = false) := by
  unfold idxL
  cases h : l.findIdx? p with
  | none =>
    right
    refine ⟨rfl, ?_⟩
    rw [List.findIdx?_eq_none_iff] at h
    cases ha : l.any p with
    | false => rfl
    | true =>
      obtain ⟨x, hx, hp⟩ := List.any_eq_true.1 ha
      rw [h x hx] at hp; exact absurd hp (by simp)
  | some i =>
    left
    rw [List.findIdx?_eq_some_iff_getElem] at h
    obtain ⟨hi, h1, h2⟩ := h
    refine ⟨i, hi, rfl, h1, ?_⟩
    cases ha : (l.take i).any p with
    | false => rfl
    | true =>
      obtain ⟨x, hx, hp⟩ := List.any_eq_true.1 ha
      obtain ⟨j, hj, rfl⟩ := List.getElem_of_mem hx
      rw [List.getElem_take] at hp
      have hji : j < i := by simp at hj; omega
      have := h2 j hji
      simp [hp] at this
end

/-- The rune predicate of a component. -/
def allowedR (r : Nat) : Bool := !(notAllowed r)

set_option maxRecDepth 100000 in
set_option maxHeartbeats 400000 in
theorem pn_allowed (c : Nat) (w : World) : Calls Tryz.prog 105 #[.int .i32 (c : Int)] w fun e w' => e = .returned (.bool (allowedR c)) ∧ w' = w := by
  rcases (show (97 ≤ c ∧ c ≤ 122) ∨ 122 < c ∨ (48 ≤ c ∧ c ≤ 57) ∨ c = 46 ∨ c = 95 ∨ c = 45 ∨ (c < 48 ∧ c ≠ 46 ∧ c ≠ 45) ∨ (57 < c ∧ c < 97 ∧ c ≠ 95) by omega) with hc | hc | hc | hc | hc | hc | hc | hc
  · have d97 : decide (97 ≤ (c : Int)) = true := by simp; omega
    have d122 : decide ((c : Int) ≤ 122) = true := by simp; omega
    have d48 : decide (48 ≤ (c : Int)) = true := by simp; omega
    have d57 : decide ((c : Int) ≤ 57) = false := by simp; omega
    have n46 : ((c : Int) == 46) = false := by simp; omega
    have n95 : ((c : Int) == 95) = false := by simp; omega
    have n45 : ((c : Int) == 45) = false := by simp; omega
    have Hv := Lib.hid (show allowedR c = true by unfold allowedR notAllowed; simp; omega)
    clear hc
    go_enter Tryz.func105, Tryz.ntmps105
    go_wp2
    go_ret
    exact ⟨ret_b Hv.out.symm, rfl⟩
  · have d97 : decide (97 ≤ (c : Int)) = true := by simp; omega
    have d122 : decide ((c : Int) ≤ 122) = false := by simp; omega
    have d48 : decide (48 ≤ (c : Int)) = true := by simp; omega
    have d57 : decide ((c : Int) ≤ 57) = false := by simp; omega
    have n46 : ((c : Int) == 46) = false := by simp; omega
    have n95 : ((c : Int) == 95) = false := by simp; omega
    have n45 : ((c : Int) == 45) = false := by simp; omega
    have Hv := Lib.hid (show allowedR c = false by unfold allowedR notAllowed; simp; omega)
    clear hc
    go_enter Tryz.func105, Tryz.ntmps105
    go_wp2
    go_ret
    exact ⟨ret_b Hv.out.symm, rfl⟩
  · have d97 : decide (97 ≤ (c : Int)) = false := by simp; omega
    have d122 : decide ((c : Int) ≤ 122) = true := by simp; omega
    have d48 : decide (48 ≤ (c : Int)) = true := by simp; omega
    have d57 : decide ((c : Int) ≤ 57) = true := by simp; omega
    have n46 : ((c : Int) == 46) = false := by simp; omega
    have n95 : ((c : Int) == 95) = false := by simp; omega
    have n45 : ((c : Int) == 45) = false := by simp; omega
    have Hv := Lib.hid (show allowedR c = true by unfold allowedR notAllowed; simp; omega)
    clear hc
    go_enter Tryz.func105, Tryz.ntmps105
    go_wp2
    go_ret
    exact ⟨ret_b Hv.out.symm, rfl⟩
  · have d97 : decide (97 ≤ (c : Int)) = false := by simp; omega
    have d122 : decide ((c : Int) ≤ 122) = true := by simp; omega
    have d48 : decide (48 ≤ (c : Int)) = false := by simp; omega
    have d57 : decide ((c : Int) ≤ 57) = true := by simp; omega
    have n46 : ((c : Int) == 46) = true := by simp; omega
    have n95 : ((c : Int) == 95) = false := by simp; omega
    have n45 : ((c : Int) == 45) = false := by simp; omega
    have Hv := Lib.hid (show allowedR c = true by unfold allowedR notAllowed; simp; omega)
    clear hc
    go_enter Tryz.func105, Tryz.ntmps105
    go_wp2
    go_ret
    exact ⟨ret_b Hv.out.symm, rfl⟩
  · have d97 : decide (97 ≤ (c : Int)) = false := by simp; omega
    have d122 : decide ((c : Int) ≤ 122) = true := by simp; omega
    have d48 : decide (48 ≤ (c : Int)) = true := by simp; omega
    have d57 : decide ((c : Int) ≤ 57) = false := by simp; omega
    have n46 : ((c : Int) == 46) = false := by simp; omega
    have n95 : ((c : Int) == 95) = true := by simp; omega
    have n45 : ((c : Int) == 45) = false := by simp; omega
    have Hv := Lib.hid (show allowedR c = true by unfold allowedR notAllowed; simp; omega)
    clear hc
    go_enter Tryz.func105, Tryz.ntmps105
    go_wp2
    go_ret
    exact ⟨ret_b Hv.out.symm, rfl⟩
  · have d97 : decide (97 ≤ (c : Int)) = false := by simp; omega
    have d122 : decide ((c : Int) ≤ 122) = true := by simp; omega
    have d48 : decide (48 ≤ (c : Int)) = false := by simp; omega
    have d57 : decide ((c : Int) ≤ 57) = true := by simp; omega
    have n46 : ((c : Int) == 46) = false := by simp; omega
    have n95 : ((c : Int) == 95) = false := by simp; omega
    have n45 : ((c : Int) == 45) = true := by simp; omega
    have Hv := Lib.hid (show allowedR c = true by unfold allowedR notAllowed; simp; omega)
    clear hc
    go_enter Tryz.func105, Tryz.ntmps105
    go_wp2
    go_ret
    exact ⟨ret_b Hv.out.symm, rfl⟩
  · have d97 : decide (97 ≤ (c : Int)) = false := by simp; omega
    have d122 : decide ((c : Int) ≤ 122) = true := by simp; omega
    have d48 : decide (48 ≤ (c : Int)) = false := by simp; omega
    have d57 : decide ((c : Int) ≤ 57) = true := by simp; omega
    have n46 : ((c : Int) == 46) = false := by simp; omega
    have n95 : ((c : Int) == 95) = false := by simp; omega
    have n45 : ((c : Int) == 45) = false := by simp; omega
    have Hv := Lib.hid (show allowedR c = false by unfold allowedR notAllowed; simp; omega)
    clear hc
    go_enter Tryz.func105, Tryz.ntmps105
    go_wp2
    go_ret
    exact ⟨ret_b Hv.out.symm, rfl⟩
  · have d97 : decide (97 ≤ (c : Int)) = false := by simp; omega
    have d122 : decide ((c : Int) ≤ 122) = true := by simp; omega
    have d48 : decide (48 ≤ (c : Int)) = true := by simp; omega
    have d57 : decide ((c : Int) ≤ 57) = false := by simp; omega
    have n46 : ((c : Int) == 46) = false := by simp; omega
    have n95 : ((c : Int) == 95) = false := by simp; omega
    have n45 : ((c : Int) == 45) = false := by simp; omega
    have Hv := Lib.hid (show allowedR c = false by unfold allowedR notAllowed; simp; omega)
    clear hc
    go_enter Tryz.func105, Tryz.ntmps105
    go_wp2
    go_ret
    exact ⟨ret_b Hv.out.symm, rfl⟩

set_option maxRecDepth 100000 in
theorem pn_component1 (c : Nat) (w : World) : Calls Tryz.prog 104 #[.int .i32 (c : Int)] w fun e w' => e = .returned (.bool (notAllowed c)) ∧ w' = w := by
  go_enter Tryz.func104, Tryz.ntmps104
  go_wp2_with fail
  refine (pn_allowed c _).mono ?_
  rintro e w1 ⟨rfl, rfl⟩
  go_wp2
  go_ret
  exact ⟨ret_b (by rw [allowedR, Bool.not_not]), rfl⟩

set_option maxRecDepth 100000 in
set_option maxHeartbeats 400000 in
theorem pn_component (s : Bytes) (hs : s.length ≤ 9223372036854775807) (w : World) :
    Calls Tryz.prog 68 #[S s] w fun e w' => e = .returned (.bool (comp s)) ∧ Below w.heap.size w w' := by
  by_cases h1 : 1 ≤ s.length
  case neg =>
    have hd1 : decide (1 ≤ s.length) = false := decide_eq_false h1
    have Hok := Lib.hid (show comp s = false by simp [comp, h1])
    go_enter Tryz.func68, Tryz.ntmps68
    go_wp2
    go_ret
    exact ⟨ret_b Hok.out.symm, Below.refl _ _⟩
  have hd1 : decide (1 ≤ s.length) = true := decide_eq_true h1
  by_cases h32 : s.length ≤ 32
  case neg =>
    have hd2 : decide (s.length ≤ 32) = false := decide_eq_false h32
    have Hok := Lib.hid (show comp s = false by simp [comp, h32])
    go_enter Tryz.func68, Tryz.ntmps68
    go_wp2
    go_ret
    exact ⟨ret_b Hok.out.symm, Below.refl _ _⟩
  have hd2 : decide (s.length ≤ 32) = true := decide_eq_true h32
  by_cases h46 : s = [46]
  case pos =>
    subst h46
    have Hok := Lib.hid (show comp [46] = false by rfl)
    clear hs h1 hd1 h32 hd2
    go_enter Tryz.func68, Tryz.ntmps68
    go_wp2
    go_ret
    exact ⟨ret_b Hok.out.symm, Below.refl _ _⟩
  have f46 : (s != [46]) = true := by simpa using h46
  have g46 : (s == [46]) = false := by simpa using h46
  by_cases h47 : s = [46, 46]
  case pos =>
    subst h47
    have Hok := Lib.hid (show comp [46, 46] = false by rfl)
    clear hs h1 hd1 h32 hd2 h46 f46 g46
    go_enter Tryz.func68, Tryz.ntmps68
    go_wp2
    go_ret
    exact ⟨ret_b Hok.out.symm, Below.refl _ _⟩
  have f47 : (s != [46, 46]) = true := by simpa using h47
  have g47 : (s == [46, 46]) = false := by simpa using h47
  have Hok := Lib.hid (show comp s = !(decide (0 ≤ Lib.idxFunc notAllowed true ⟨s.toArray⟩)) by rw [idx_comp, Bool.not_not]; simp [comp, h1, h32, f46, f47])
  have Hcf := Lib.hid (lib_ContainsFunc 104 notAllowed s w (fun _ _ => by kernel_rfl) (fun x W => pn_component1 x W))
  generalize decide (0 ≤ Lib.idxFunc notAllowed true ⟨s.toArray⟩) = bb at Hok Hcf
  clear h46 h47
  go_enter Tryz.func68, Tryz.ntmps68
  go_wp2_with fail
  refine Hcf.out.mono ?_
  rintro e w1 ⟨rfl, hb1⟩
  go_wp2
  go_ret
  exact ⟨ret_b Hok.out.symm, hb1⟩

set_option maxRecDepth 100000 in
set_option maxHeartbeats 400000 in
theorem pn_elements (I : IH) (hI : Glob I) (s : Bytes) (hs : s.length ≤ 4294967280) (w : World) (hw : Ok I w) :
    Calls Tryz.prog 65 #[S s] w (RetS tStr I w (els s)) := by
  by_cases h0 : s = []
  · obtain ⟨p1, p2, p3, p4⟩ := eq_emp h0
    have Hs := Lib.hid (show els s = [] by rw [h0]; rfl)
    clear h0
    go_enter Tryz.func65, Tryz.ntmps65
    go_wp2
    go_ret
    rw [Hs.out]
    exact ⟨_, I, rfl, Below.refl _ _, Ext.refl _ _, hw, RdS.nil _ _⟩
  · obtain ⟨p1, p2, p3, p4⟩ := ne_emp h0
    have Hs := Lib.hid (show els s = elsGo [] s by rw [els, if_neg h0])
    have Hl := Lib.hid (lib_Split I hI s hs w hw)
    generalize elsGo [] s = l at Hs Hl
    clear h0
    go_enter Tryz.func65, Tryz.ntmps65
    go_wp2_with fail
    refine Hl.out.mono ?_
    rintro e w1 ⟨v1, I1, rfl, hb1, hx1, hok1, hr1⟩
    obtain ⟨ao, cap, rfl, hcap, hcm, _⟩ := id hr1
    go_wp2
    go_ret
    rw [Hs.out]
    exact ⟨_, I1, rfl, hb1, hx1, hok1, hr1⟩

set_option maxRecDepth 100000 in
theorem pn_Check1 (s : Bytes) (hs : s.length ≤ 9223372036854775807) (w : World) :
    Calls Tryz.prog 67 #[S s] w fun e w' => e = .returned (.bool (!(comp s))) ∧ Below w.heap.size w w' := by
  go_enter Tryz.func67, Tryz.ntmps67
  go_wp2_with fail
  refine (pn_component s hs _).mono ?_
  rintro e w1 ⟨rfl, hb1⟩
  go_wp2
  go_ret
  exact ⟨rfl, hb1⟩

set_option maxRecDepth 100000 in
set_option maxHeartbeats 400000 in
theorem lib_IndexFuncS (I : IH) (v : Value) (l : List Bytes) (hv : RdS tStr I v l) (g : Nat) (p : Bytes → Bool) (w : World) (hw : Ok I w) (eg : ∀ args w, (callFunc g args).run Tryz.prog w = .ok (.enter g args) w) (hp : ∀ x ∈ l, ∀ W : World, Calls Tryz.prog g #[S x] W fun e w' => e = .returned (.bool (p x)) ∧ Below W.heap.size W w') :
    Calls Tryz.prog 102 #[v, .func (.func g) #[] #[]] w fun e w' => e = .returned (.int .i64 (idxL l p)) ∧ Below w.heap.size w w' := by
  have hlen := hv.len_le
  obtain ⟨ao, cap, rfl, hcap, hcm, _⟩ := id hv
  have Hv := Lib.hid hv; clear hv
  have Hp := Lib.hid hp; clear hp
  go_enter Tryz.func102, Tryz.ntmps102
  go_wp2_with fail
  go_loopw [8] (fun s8 wr => ∃ k : Nat, k ≤ l.length ∧ s8 = .int .i64 k ∧ (l.take k).any p = false ∧ Below w.heap.size w wr) (fun i _ => l.length - (intOf i).toNat)
  case atStart => exact ⟨0, Nat.zero_le _, rfl, rfl, Below.refl _ _⟩
  case round =>
    obtain ⟨k, hk, rfl, hr, hb⟩ := hrel
    have Hr := Lib.hid hr; clear hr
    by_cases hlt : k < l.length
    · have hwr : Ok I wr := hw.below (Nat.le_refl _) hb
      obtain ⟨x, b, off, cap', hlx, hvv, hc0⟩ := strAt Hv.out hwr k hlt
      cases hvv
      have Hlx := Lib.hid hlx
      have Hcall := Lib.hid (Hp.out x (by rw [← hlx]; exact List.getElem_mem hlt))
      clear hlx
      go_wp2_with fail
      refine (Hcall.out _).mono ?_
      rintro e w1 ⟨rfl, hb1⟩
      have hb1' := hb.trans (hb1.mono hb.size)
      clear hb1 Hcall
      cases hpx : p x
      · have Hn := Lib.hid (show (l.take (k + 1)).any p = false by rw [List.take_succ_eq_append_getElem hlt, List.any_append, Hr.out, Hlx.out]; simp [hpx])
        clear hpx
        go_wp2
        go_roundw
        case rel => exact ⟨k + 1, by omega, by go_num, Hn.out, hb1'⟩
        case measure => simp [intOf]; omega
      · have Hn := Lib.hid (idxL_some (p := p) hlt (by rw [Hlx.out]; exact hpx) Hr.out)
        clear hpx
        go_wp2
        go_ret
        exact ⟨ret_i Hn.out.symm, hb1'⟩
    · have Hn := Lib.hid (show idxL l p = -1 from idxL_none (by have := Hr.out; rwa [List.take_of_length_le (by omega)] at this))
      go_wp2
      go_ret
      exact ⟨ret_i Hn.out.symm, hb⟩

set_option maxRecDepth 100000 in
theorem lib_ContainsFuncS (I : IH) (v : Value) (l : List Bytes) (hv : RdS tStr I v l) (g : Nat) (p : Bytes → Bool) (w : World) (hw : Ok I w) (eg : ∀ args w, (callFunc g args).run Tryz.prog w = .ok (.enter g args) w) (hp : ∀ x ∈ l, ∀ W : World, Calls Tryz.prog g #[S x] W fun e w' => e = .returned (.bool (p x)) ∧ Below W.heap.size W w') :
    Calls Tryz.prog 66 #[v, .func (.func g) #[] #[]] w fun e w' => e = .returned (.bool (l.any p)) ∧ Below w.heap.size w w' := by
  have Hi := Lib.hid (lib_IndexFuncS I v l hv g p w hw eg hp)
  obtain ⟨ao, cap, rfl, hcap, hcm, _⟩ := id hv
  clear hv hp eg
  rcases idxL_cases l p with ⟨i, hi, e1, e2, _⟩ | ⟨e1, e2⟩
  · have Ha := Lib.hid (show l.any p = true from List.any_eq_true.2 ⟨l[i], List.getElem_mem hi, e2⟩)
    have hd : decide ((0 : Int) ≤ (i : Int)) = true := decide_eq_true (by omega)
    rw [e1] at Hi
    clear e1 e2
    go_enter Tryz.func66, Tryz.ntmps66
    go_wp2_with fail
    refine Hi.out.mono ?_
    rintro e w1 ⟨rfl, hb1⟩
    go_wp2
    go_ret
    exact ⟨ret_b Ha.out.symm, hb1⟩
  · have Ha := Lib.hid e2
    rw [e1] at Hi
    clear e1 e2
    go_enter Tryz.func66, Tryz.ntmps66
    go_wp2_with fail
    refine Hi.out.mono ?_
    rintro e w1 ⟨rfl, hb1⟩
    go_wp2
    go_ret
    exact ⟨ret_b Ha.out.symm, hb1⟩
end Go.Proofs.YtcbmdghnlbieeaaGreatDoor
