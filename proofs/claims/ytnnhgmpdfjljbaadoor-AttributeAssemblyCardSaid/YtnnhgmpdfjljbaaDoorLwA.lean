/-
  The laws of layer 32: alive, AttributeSet: their walks.
-/
import Derived.Test.YtnnhgmpdfjljbaaDoorAtQ
namespace Go.Proofs.YtnnhgmpdfjljbaaDoor
open Go.RowKit

def atO : At := ⟨[111, 119, 110, 101, 114], [97, 110, 110]⟩
def atM : At := ⟨[109, 111, 100, 101], [55]⟩
theorem atO_wf : atO.Wf := by unfold At.Wf; decide
theorem atM_wf : atM.Wf := by unfold At.Wf; decide
theorem set_alive : setA [atO] atM = ([atM, atO], 0) := by decide
def AllWf (l : List At) : Prop := ∀ x ∈ l, x.Wf

theorem own_lit (I : IH) (w : World) (cs : List Value) (l : List At) (n : Nat) (hn : n = l.length) (hs : cs = encA l) (hl : l.length ≤ 100) : OwnS tAt 34 I (w.alloc (.cells cs.toArray 34)) w.heap.size (.slice (some ⟨w.heap.size, 0, none⟩) n n) l := by
  subst hn hs
  exact ⟨encA l, ⟨encA_length l, .inr ⟨w.heap.size, l.length, _, rfl, Nat.le_refl _, heap_alloc_new w _, Nat.le_refl _, by unfold maxLen; omega, by rw [List.size_toArray]; exact encA_length l, by rw [List.toList_toArray]; exact List.take_of_length_le (by rw [encA_length]; exact Nat.le_refl _)⟩⟩, enc_lies I l⟩

theorem same_eq (I : IH) (v1 v2 : Value) (l : List At) (hv1 : RdS tAt I v1 l) (hv2 : RdS tAt I v2 l) (w : World) (hw : Ok I w) :
    Calls Tryd.prog 14 #[v1, v2] w fun e w' => e = .returned (.bool true) ∧ Below w.heap.size w w' := by
  have h := ref32_Same I v1 v2 l l hv1 hv2 w hw
  rwa [decide_eq_true rfl] at h
theorem great_cases (l : List At) : greatA l = 1 ∨ (greatA l = 0 ∧ l.length ≤ 30) := by
  unfold greatA
  by_cases h : 30 < l.length
  · rw [if_pos h]; exact .inl rfl
  · rw [if_neg h]
    cases l.any bigA
    · exact .inr ⟨rfl, by omega⟩
    · exact .inl rfl

set_option maxRecDepth 100000 in
set_option maxHeartbeats 1000000 in
theorem law_alive32 (I : IH) (w : World) (hw : Ok I w) :
    Calls Tryd.prog 10 #[] w fun e w' => e = .returned (.bool true) ∧ Below w.heap.size w w' := by
  have hown := own_lit I w _ [atO] 1 rfl rfl (by decide)
  obtain ⟨I1, hI1, hI2, hI3, _⟩ := hown.freeze (hw.alloc _) (fun b hb => hw.fresh hb)
  have Hv := Lib.hid hI3
  have Hs := Lib.hid (at_Set I1 _ [atO] hI3 (by simpa using atO_wf) atM atM_wf _ hI2)
  clear hI3 hown
  go_enter Tryd.func10, Tryd.ntmps10
  go_wp2_with fail
  refine (Hs.out).mono ?_
  rw [set_alive]
  rintro e w1 ⟨v1, I2, rfl, hb1, hx1, hok1, hr1⟩
  obtain ⟨ao, cap, rfl, hcap, hcm, _⟩ := id hr1
  have hb1' : Below w.heap.size w w1 := ((Below.refl _ _).alloc (Nat.le_refl _) _).trans (hb1.mono (by simp))
  have hown := own_lit I2 w1 _ [atM, atO] 2 rfl rfl (by decide)
  obtain ⟨I3, hI1', hI2', hI3', _⟩ := hown.freeze (hok1.alloc _) (fun b hb => hok1.fresh hb)
  have Hsm := Lib.hid (same_eq I3 _ _ [atM, atO] (hr1.mono (hI1'.keep hok1 (Nat.le_refl _))) hI3' _ hI2')
  clear hI3' hown Hs Hv hr1
  go_wp2_with fail
  refine (Hsm.out).mono ?_
  rintro e w3 ⟨rfl, hb3⟩
  go_wp2
  go_ret
  exact ⟨rfl, (hb1'.alloc hb1'.size _).trans (hb3.mono (by have := hb1'.size; simp; omega))⟩

set_option maxRecDepth 100000 in
set_option maxHeartbeats 1000000 in
theorem law_AttributeSet (I : IH) (v : Value) (l : List At) (hv : RdS tAt I v l) (hl : AllWf l) (k s : Bytes) (w : World) (hw : Ok I w) :
    Calls Tryd.prog 3 #[v, S k, S s] w fun e w' => e = .returned (.bool true) ∧ Below w.heap.size w w' := by
  obtain ⟨ao, cap, rfl, hcap, hcm, _⟩ := id hv
  have Hv := Lib.hid hv; clear hv
  have Hl := Lib.hid hl; clear hl
  go_enter Tryd.func3, Tryd.ntmps3
  go_wp2_with fail
  refine (law_alive32 I _ hw).mono ?_
  rintro e w1 ⟨rfl, hb1⟩
  have hok1 : Ok I w1 := hw.below (Nat.le_refl _) hb1
  go_wp2_with fail
  refine (ref32_Great I _ l Hv.out Hl.out _ hok1).mono ?_
  rintro e w2 ⟨rfl, hb2⟩
  have hok2 : Ok I w2 := hok1.below (Nat.le_refl _) hb2
  have hb2' := hb1.trans (hb2.mono hb1.size)
  clear hb1 hb2
  rcases great_cases l with hg | ⟨hg, hln⟩
  · rw [hg]
    go_wp2
    go_ret
    exact ⟨rfl, hb2'⟩
  · rw [hg]
    by_cases hk : k.length ≤ 100
    · have hd1 : decide (100 < k.length) = false := decide_eq_false (by omega)
      by_cases hs : s.length ≤ 100
      · have hd2 : decide (100 < s.length) = false := decide_eq_false (by omega)
        have Hx := Lib.hid (show At.Wf ⟨k, s⟩ from ⟨by show k.length ≤ _; omega, by show s.length ≤ _; omega⟩)
        obtain ⟨A, n, hA⟩ : ∃ A n, setA l ⟨k, s⟩ = (A, n) := ⟨_, _, rfl⟩
        have HA := Lib.hid hA; clear hA
        go_wp2_with fail
        refine (at_Set I _ l Hv.out Hl.out ⟨k, s⟩ Hx.out _ hok2).mono ?_
        rw [HA.out]
        rintro e w3 ⟨v3, I3, rfl, hb3, hx3, hok3, hr3⟩
        have hb3' := hb2'.trans (hb3.mono hb2'.size)
        have Hr3 := Lib.hid hr3
        have Hv3 := Lib.hid (Hv.out.mono (hx3.keep hok2 (Nat.le_refl _)))
        clear hr3 hb3
        go_wp2_with fail
        refine (ref32_Set I3 _ l Hv3.out Hl.out ⟨k, s⟩ Hx.out _ hok3).mono ?_
        rw [HA.out]
        rintro e w4 ⟨v4, I4, rfl, hb4, hx4, hok4, hr4⟩
        have hb4' := hb3'.trans (hb4.mono hb3'.size)
        have Hr4 := Lib.hid hr4
        have Hr34 := Lib.hid (Hr3.out.mono (hx4.keep hok3 (Nat.le_refl _)))
        clear hr4 hb4
        go_wp2_with fail
        refine (same_eq I4 _ _ A Hr34.out Hr4.out _ hok4).mono ?_
        rintro e w5 ⟨rfl, hb5⟩
        go_wp2
        go_ret
        exact ⟨rfl, hb4'.trans (hb5.mono hb4'.size)⟩
      · have hd2 : decide (100 < s.length) = true := decide_eq_true (by omega)
        go_wp2
        go_ret
        exact ⟨rfl, hb2'⟩
    · have hd1 : decide (100 < k.length) = true := decide_eq_true (by omega)
      go_wp2
      go_ret
      exact ⟨rfl, hb2'⟩
end Go.Proofs.YtnnhgmpdfjljbaaDoor
