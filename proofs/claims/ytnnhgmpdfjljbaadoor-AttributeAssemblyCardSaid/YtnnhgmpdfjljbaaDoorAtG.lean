/-
  Walks of layer 32: has, slices.IndexFunc and ContainsFunc at attributes, Get.
-/
import Derived.Test.YtnnhgmpdfjljbaaDoorAtF
namespace Go.Proofs.YtnnhgmpdfjljbaaDoor
open Go.RowKit

/-- A predicate on attributes that leaves old memory alone. -/
def PredA (g : Nat) (cb : Array Value) (p : At → Bool) (w : World) : Prop :=
  ∀ (x : At) (W : World), Below w.heap.size w W → Calls Tryd.prog g (#[x.val] ++ cb) W fun e w' => e = .returned (.bool (p x)) ∧ Below W.heap.size W w'
theorem PredA.later {g : Nat} {cb : Array Value} {p : At → Bool} {w w' : World} (h : PredA g cb p w) (hb : Below w.heap.size w w') : PredA g cb p w' := fun x W hW => h x W (hb.trans (hW.mono hb.size))

set_option maxRecDepth 100000 in
theorem at_has1 (key : Bytes) (b : Nat) (w : World) (hc : w.cell? ⟨b, 0, none⟩ = some (S key)) : PredA 35 #[.pointer (some ⟨b, 0, none⟩)] (fun x => x.k == key) w := by
  intro x W hW
  have hcW := cell_thru hW hc
  have hc2 := cell_past (.cells #[S x.k, S x.v] 34) hcW
  clear hc
  go_enter Tryd.func35, Tryd.ntmps35
  go_wp2
  go_ret
  exact ⟨rfl, (Below.refl _ _).alloc (Nat.le_refl _) _⟩

set_option maxRecDepth 100000 in
theorem at_has (key : Bytes) (w : World) : Calls Tryd.prog 28 #[S key] w fun e w' => e = .returned (.func (.func 35) #[] #[.pointer (some ⟨w.heap.size, 0, none⟩)]) ∧ w' = w.alloc (.cells #[S key] 9) := by
  go_enter Tryd.func28, Tryd.ntmps28
  go_wp2
  go_ret
  exact ⟨rfl, rfl⟩

def idxA (l : List At) (p : At → Bool) : Int := match l.findIdx? p with | some i => i | none => -1
theorem idxA_none {l : List At} {p : At → Bool} (h : l.any p = false) : idxA l p = -1 := by
  have : l.findIdx? p = none := by
    rw [List.findIdx?_eq_none_iff]
    intro x hx
    cases hp : p x with
    | false => rfl
    | true => rw [List.any_eq_true.2 ⟨x, hx, hp⟩] at h; exact absurd h (by simp)
  rw [idxA, this]
theorem idxA_some {l : List At} {p : At → Bool} {i : Nat} (hi : i < l.length) (hp : p l[i] = true) (hn : (l.take i).any p = false) : idxA l p = i := by
  have : l.findIdx? p = some i := by
    rw [List.findIdx?_eq_some_iff_getElem]
    refine ⟨hi, hp, fun j hj => ?_⟩
    cases hq : p l[j] with
    | false => simp
    | true =>
      have hjl : j < (l.take i).length := by simp; omega
      rw [List.any_eq_true.2 ⟨(l.take i)[j], List.getElem_mem hjl, by rw [List.getElem_take]; exact hq⟩] at hn
      exact absurd hn (by simp)
  rw [idxA, this]

set_option maxRecDepth 100000 in
set_option maxHeartbeats 400000 in
theorem lib_IndexFunc (I : IH) (v : Value) (l : List At) (hv : RdS tAt I v l) (g : Nat) (cb : Array Value) (p : At → Bool) (w : World) (hw : Ok I w) (eg : ∀ args w, (callFunc g args).run Tryd.prog w = .ok (.enter g args) w) (hp : PredA g cb p w) :
    Calls Tryd.prog 33 #[v, .func (.func g) #[] cb] w fun e w' => e = .returned (.int .i64 (idxA l p)) ∧ Below w.heap.size w w' := by
  have hlen := hv.len_le
  obtain ⟨ao, cap, rfl, hcap, hcm, _⟩ := id hv
  have Hv := Lib.hid hv; clear hv
  have Hp := Lib.hid hp; clear hp
  go_enter Tryd.func33, Tryd.ntmps33
  go_wp2_with fail
  go_loopw [8] (fun s8 wr => ∃ k : Nat, k ≤ l.length ∧ s8 = .int .i64 k ∧ (l.take k).any p = false ∧ Below w.heap.size w wr) (fun i _ => l.length - (intOf i).toNat)
  case atStart => exact ⟨0, Nat.zero_le _, rfl, rfl, Below.refl _ _⟩
  case round =>
    obtain ⟨k, hk, rfl, hr, hb⟩ := hrel
    have Hr := Lib.hid hr; clear hr
    by_cases hlt : k < l.length
    · have hwr : Ok I wr := hw.below (Nat.le_refl _) hb
      obtain ⟨x, b, off, cap', hlx, hvv, hc0, hc1⟩ := atAt Hv.out hwr k hlt
      cases hvv
      have Hlx := Lib.hid hlx
      have hcall := Hp.out x wr hb
      have Hcall := Lib.hid hcall
      clear hlx hcall
      go_wp2_with fail
      refine Hcall.out.mono ?_
      rintro e w1 ⟨rfl, hb1⟩
      have hb1' := hb.trans (hb1.mono hb.size)
      clear hb1 Hcall
      cases hpx : p x
      · have Hn := Lib.hid (show (l.take (k + 1)).any p = false by rw [List.take_succ_eq_append_getElem hlt, List.any_append, Hr.out, Hlx.out]; simp [hpx])
        clear hpx
        go_wp2
        go_roundw
        case rel => exact ⟨k + 1, by omega, by go_num, Hn.out, hb1'⟩
        case measure => simp [intOf]; omega
      · have Hn := Lib.hid (idxA_some (p := p) hlt (by rw [Hlx.out]; exact hpx) Hr.out)
        clear hpx
        go_wp2
        go_ret
        exact ⟨ret_i Hn.out.symm, hb1'⟩
    · have Hn := Lib.hid (show idxA l p = -1 from idxA_none (by have := Hr.out; rwa [List.take_of_length_le (by omega)] at this))
      go_wp2
      go_ret
      exact ⟨ret_i Hn.out.symm, hb⟩

theorem idxA_cases (l : List At) (p : At → Bool) : (∃ i : Nat, ∃ h : i < l.length, idxA l p = i ∧ p l[i] = true ∧ (l.take i).any p = false) ∨ (idxA l p = -1 ∧ l.any p = false) := by
  unfold idxA
  cases h : l.findIdx? p with
  | none =>
    right
    refine ⟨rfl, ?_⟩
    rw [List.findIdx?_eq_none_iff] at h
    cases ha : l.any p with
    | false => rfl
    | true =>
      obtain ⟨x, hx, hp⟩ := List.any_eq_true.1 ha
      rw [h x hx] at hp; exact absurd hp (by simp)
  | some i =>
    left
    rw [List.findIdx?_eq_some_iff_getElem] at h
    obtain ⟨hi, h1, h2⟩ := h
    refine ⟨i, hi, rfl, h1, ?_⟩
    cases ha : (l.take i).any p with
    | false => rfl
    | true =>
      obtain ⟨x, hx, hp⟩ := List.any_eq_true.1 ha
      obtain ⟨j, hj, rfl⟩ := List.getElem_of_mem hx
      rw [List.getElem_take] at hp
      have hji : j < i := by simp at hj; omega
      have := h2 j hji
      simp [hp] at this

set_option maxRecDepth 100000 in
theorem lib_ContainsFunc (I : IH) (v : Value) (l : List At) (hv : RdS tAt I v l) (g : Nat) (cb : Array Value) (p : At → Bool) (w : World) (hw : Ok I w) (eg : ∀ args w, (callFunc g args).run Tryd.prog w = .ok (.enter g args) w) (hp : PredA g cb p w) :
    Calls Tryd.prog 27 #[v, .func (.func g) #[] cb] w fun e w' => e = .returned (.bool (l.any p)) ∧ Below w.heap.size w w' := by
  have hlen := hv.len_le
  obtain ⟨ao, cap, rfl, hcap, hcm, _⟩ := id hv
  have Hv := Lib.hid hv; clear hv
  have Hp := Lib.hid hp; clear hp
  have Heg := Lib.hid eg; clear eg
  rcases idxA_cases l p with ⟨i, hi, e1, e2, _⟩ | ⟨e1, e2⟩
  · have Ha := Lib.hid (show l.any p = true from List.any_eq_true.2 ⟨l[i], List.getElem_mem hi, e2⟩)
    have He := Lib.hid e1
    have hd : decide ((0 : Int) ≤ (i : Int)) = true := decide_eq_true (by omega)
    clear e1 e2
    go_enter Tryd.func27, Tryd.ntmps27
    go_wp2_with fail
    refine (lib_IndexFunc I _ l Hv.out g cb p _ hw Heg.out Hp.out).mono ?_
    rintro e w1 ⟨rfl, hb1⟩
    rw [He.out]
    go_wp2
    go_ret
    exact ⟨ret_b Ha.out.symm, hb1⟩
  · have Ha := Lib.hid e2
    have He := Lib.hid e1
    clear e1 e2
    go_enter Tryd.func27, Tryd.ntmps27
    go_wp2_with fail
    refine (lib_IndexFunc I _ l Hv.out g cb p _ hw Heg.out Hp.out).mono ?_
    rintro e w1 ⟨rfl, hb1⟩
    rw [He.out]
    go_wp2
    go_ret
    exact ⟨ret_b Ha.out.symm, hb1⟩

theorem getA_idx {l : List At} {key : Bytes} {i : Nat} (hi : i < l.length) (hp : (l[i].k == key) = true) (hn : (l.take i).any (fun x => x.k == key) = false) : getA l key = (l[i].v, true) := by
  have : l.find? (fun x => x.k == key) = some l[i] := by
    conv => lhs; rw [← List.take_append_drop i l]
    rw [List.find?_append, List.drop_eq_getElem_cons hi, List.find?_cons, hp]
    have : (l.take i).find? (fun x => x.k == key) = none := by
      rw [List.find?_eq_none]
      intro x hx hpx
      rw [List.any_eq_true.2 ⟨x, hx, hpx⟩] at hn
      exact absurd hn (by simp)
    rw [this]; rfl
  rw [getA, this]
theorem getA_none {l : List At} {key : Bytes} (hn : l.any (fun x => x.k == key) = false) : getA l key = ([], false) := by
  have : l.find? (fun x => x.k == key) = none := by
    rw [List.find?_eq_none]
    intro x hx hpx
    rw [List.any_eq_true.2 ⟨x, hx, hpx⟩] at hn
    exact absurd hn (by simp)
  rw [getA, this]

set_option maxRecDepth 100000 in
set_option maxHeartbeats 400000 in
theorem at_Get (I : IH) (v : Value) (l : List At) (hv : RdS tAt I v l) (key : Bytes) (w : World) (hw : Ok I w) :
    Calls Tryd.prog 19 #[v, S key] w fun e w' => e = .returned (.tuple #[S (getA l key).1, .bool (getA l key).2]) ∧ Below w.heap.size w w' := by
  have hlen := hv.len_le
  obtain ⟨ao, cap, rfl, hcap, hcm, _⟩ := id hv
  have Hv := Lib.hid hv; clear hv
  go_enter Tryd.func19, Tryd.ntmps19
  go_wp2_with fail
  refine (at_has key _).mono ?_
  rintro e w1 ⟨rfl, hw1⟩
  have hok1 : Ok I w1 := by rw [hw1]; exact hw.alloc _
  have hb1 : Below w.heap.size w w1 := by rw [hw1]; exact (Below.refl _ _).alloc (Nat.le_refl _) _
  have hp := at_has1 key w.heap.size w1 (by rw [hw1]; simp)
  have Hp := Lib.hid hp
  clear hp hw1
  go_wp2_with fail
  refine (lib_IndexFunc I _ l Hv.out _ _ _ _ hok1 (fun _ _ => by kernel_rfl) Hp.out).mono ?_
  rintro e w2 ⟨rfl, hb2⟩
  have hok2 : Ok I w2 := hok1.below (Nat.le_refl _) hb2
  have hb2' := hb1.trans (hb2.mono hb1.size)
  clear hb2 hb1
  rcases idxA_cases l (fun x => x.k == key) with ⟨i, hi, e1, e2, e3⟩ | ⟨e1, e2⟩
  · obtain ⟨x, b, off, cap', hlx, hvv, hc0, hc1⟩ := atAt Hv.out hok2 i hi
    cases hvv
    have Hg := Lib.hid (show getA l key = (x.v, true) by rw [← hlx]; exact getA_idx hi e2 e3)
    rw [e1]
    have hd : decide ((i : Int) < 0) = false := decide_eq_false (by omega)
    clear e1 e2 e3 hlx
    go_wp2
    go_ret2
    rw [Hg.out]
    exact ⟨rfl, hb2'⟩
  · have Hg := Lib.hid (getA_none e2)
    rw [e1]
    clear e1 e2
    go_wp2
    go_ret2
    rw [Hg.out]
    exact ⟨rfl, hb2'⟩
end Go.Proofs.YtnnhgmpdfjljbaaDoor
