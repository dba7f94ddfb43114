/-
  Contracts of Go's library in this work's own words: strings.Split, Join, ContainsFunc; slices.Equal, IndexFunc, ContainsFunc, CompareFunc at strings.
  Walks of layer 31 (pathname): allowed, component, elements, Check, Split.
  Walks of layer 31 (pathname): Check, Split, Parent, Under, Compare.
  Walks of layer 31 (pathname): Compare.
  Walks of layer 32: key, attr, Check.
  Walks of layer 32: Check.
  Plain laws of dates: what strconv's Atoi and Itoa say of a date. No program.
-/
import Derived.Test.YtcbmdghnlbieeaaGreatDoorZE
import Derived.Test.YtcbmdghnlbieeaaGreatDoorZF
import Derived.Test.YtcbmdghnlbieeaaGreatDoorZA
import Derived.Test.YtcbmdghnlbieeaaGreatDoorZB
import Derived.Test.YtcbmdghnlbieeaaGreatDoorZC
import Derived.Lib.AtoiAll
import Derived.Lib.ItoaNum
namespace Go.Proofs.YtcbmdghnlbieeaaGreatDoor
open Go.RowKit

theorem below_drewN (w : World) (q : Nat) : Below w.heap.size w (w.drewN q) := ⟨rfl, rfl, rfl, Nat.le_refl _, fun _ _ => rfl⟩

/-- What the immutable part holds of the library's variables. -/
structure Glob (I : IH) : Prop where
  pow : I 1 = some (Lib.pow10Tab.map fun z => Value.int .u64 z).toArray
  max : ∃ c m, I 0 = some c ∧ c[0]? = some (.int .i64 m)
  syn : ∃ tp p, I 2 = some #[.iface tp p]
  rng : ∃ tp p, I 3 = some #[.iface tp p]
theorem Glob.mono {I I' : IH} (h : Glob I) (k : ∀ b c, I b = some c → I' b = some c) : Glob I' :=
  ⟨k _ _ h.pow, (let ⟨c, m, h1, h2⟩ := h.max; ⟨c, m, k _ _ h1, h2⟩), (let ⟨tp, p, h1⟩ := h.syn; ⟨tp, p, k _ _ h1⟩), (let ⟨tp, p, h1⟩ := h.rng; ⟨tp, p, k _ _ h1⟩)⟩
theorem Glob.maxlen {I : IH} {w : World} (h : Glob I) (hw : Ok I w) : ∃ m, w.cell? ⟨0, 0, none⟩ = some (.int .i64 m) := by
  obtain ⟨c, m, h1, h2⟩ := h.max
  exact ⟨m, by rw [hw.cell h1]; exact h2⟩

theorem map_data (l : List ByteArray) : (l.map (·.data.toList)).map (fun b => Value.string ⟨b.toArray⟩) = l.map Value.string := by
  rw [List.map_map]
  apply List.map_congr_left
  intro b _
  simp

set_option maxRecDepth 100000 in
theorem lib_Split (I : IH) (hI : Glob I) (s : Bytes) (hs : s.length ≤ 4294967280) (w : World) (hw : Ok I w) :
    Calls Tryz.prog 101 #[S s, S [47]] w (RetS tStr I w (elsGo [] s)) := by
  obtain ⟨m, hm⟩ := hI.maxlen hw
  have hsz : (⟨s.toArray⟩ : ByteArray).size = s.length := by simp [ByteArray.size]
  refine (Tryz.strings_Split ⟨s.toArray⟩ ⟨[47].toArray⟩ m w (by omega) hm (by decide)).mono fun e w' ⟨he, hq⟩ => ?_
  have hspl := split_els s
  have hdat := Lib.splitB_data ⟨[47].toArray⟩ 0 (Lib.countB ⟨s.toArray⟩ ⟨[47].toArray⟩) ⟨s.toArray⟩
  have hall : (Lib.splitB ⟨[47].toArray⟩ 0 (Lib.countB ⟨s.toArray⟩ ⟨[47].toArray⟩) ⟨s.toArray⟩).map (·.data.toList) = elsGo [] s := by rw [hdat, ← hspl]; rfl
  have hlen : Lib.countB ⟨s.toArray⟩ ⟨[47].toArray⟩ + 1 = (elsGo [] s).length := by
    rw [← hall, List.length_map]
    exact (Lib.splitB_all ⟨[47].toArray⟩ (by decide) 0 _ ⟨s.toArray⟩ rfl).symm
  have hcells : ((Lib.splitB ⟨[47].toArray⟩ 0 (Lib.countB ⟨s.toArray⟩ ⟨[47].toArray⟩) ⟨s.toArray⟩).map Value.string) = (elsGo [] s).map fun b => S b := by
    rw [← hall, map_data]
  have hcl : Lib.countB ⟨s.toArray⟩ ⟨[47].toArray⟩ ≤ s.length := by
    have := Lib.countB_le ⟨[47].toArray⟩ (by decide) _ ⟨s.toArray⟩ (Nat.le_refl _)
    rwa [hsz] at this
  rw [hcells] at hq
  rw [hlen] at he
  have hmax : (elsGo [] s).length ≤ 9223372036854775807 := by omega
  generalize elsGo [] s = l at *
  subst hq
  have hb := heap_alloc_new w (.cells (l.map fun b => S b).toArray 9)
  refine ⟨_, I.add w.heap.size (l.map fun b => S b).toArray, he, (Below.refl _ _).alloc (Nat.le_refl _) _, Ext.add (Nat.le_refl _) _ _, (hw.alloc _).add hb, _, l.length, rfl, Nat.le_refl _, hmax, fun _ => ⟨w.heap.size, 0, (l.map fun b => S b).toArray, rfl, by simp [IH.add], fun i hi => ⟨[S l[i]], rfl, fun j u hu => ?_⟩⟩⟩
  have hj : j = 0 := by have := (List.getElem?_eq_some_iff.1 hu).1; simp at this; exact this
  subst hj
  obtain rfl : S l[i] = u := by simpa using hu
  show ((l.map fun b => S b).toArray)[0 + (i * 1 + 0)]? = _
  rw [show 0 + (i * 1 + 0) = i by omega, List.getElem?_toArray, List.getElem?_map, List.getElem?_eq_getElem hi]
  rfl

set_option maxRecDepth 100000 in
theorem lib_ContainsFunc (g : Nat) (p : Nat → Bool) (s : Bytes) (w : World) (eg : ∀ args w, (callFunc g args).run Tryz.prog w = .ok (.enter g args) w) (hp : ∀ (x : Nat) (W : World), Calls Tryz.prog g #[.int .i32 (x : Int)] W fun e w' => e = .returned (.bool (p x)) ∧ w' = W) :
    Calls Tryz.prog 103 #[S s, .func (.func g) #[] #[]] w fun e w' => e = .returned (.bool (decide (0 ≤ Lib.idxFunc p true ⟨s.toArray⟩))) ∧ Below w.heap.size w w' :=
  Tryz.strings_ContainsFunc g #[] eg p ⟨s.toArray⟩ w fun W x _ => by
    have := hp x W
    exact this.mono fun e w' ⟨h1, h2⟩ => ⟨h1, 0, h2⟩

set_option maxRecDepth 100000 in
theorem lib_Join (I : IH) (v : Value) (l : List Bytes) (hv : RdS tStr I v l) (hj : (joinP l).length ≤ 4294967296) (hn : l.length ≤ 4294967296) (w : World) (hw : Ok I w) :
    Calls Tryz.prog 78 #[v, S [47]] w fun e w' => e = .returned (S (joinP l)) ∧ Below w.heap.size w w' := by
  obtain ⟨ao, cap, rfl, hcap, hcm, hh⟩ := id hv
  by_cases h0 : l = []
  · subst h0
    exact (Tryz.strings_Join_none ao cap ⟨[47].toArray⟩ w).mono fun e w' ⟨h1, h2⟩ => ⟨h1, by rw [h2]; exact Below.refl _ _⟩
  · have hpos : 0 < l.length := List.length_pos_iff.2 h0
    obtain ⟨b, off, arr, rfl, hI, hl⟩ := hh hpos
    have hx : (l.map fun s => (⟨s.toArray⟩ : ByteArray)).map (·.data.toList) = l := by
      rw [List.map_map]
      conv => rhs; rw [← List.map_id l]
      apply List.map_congr_left
      intro b _
      simp
    have hjl : Lib.join ((l.map fun s => (⟨s.toArray⟩ : ByteArray)).map (·.data.toList)) (⟨[47].toArray⟩ : ByteArray).data.toList = joinP l := by rw [hx]; exact join_els l
    have h := Tryz.strings_Join b off cap (l.map fun s => ⟨s.toArray⟩) ⟨[47].toArray⟩ w (fun j x hx => ?_) (hw.lt hI) (by rw [List.length_map]; omega) (by rw [List.length_map]; exact hcap) (by rw [hjl]; omega)
    · rw [hjl, List.length_map] at h
      exact h
    · rw [List.getElem?_map] at hx
      cases hlj : l[j]? with
      | none => rw [hlj] at hx; simp at hx
      | some s =>
        rw [hlj] at hx
        simp at hx
        subst hx
        obtain ⟨hjl, hlj⟩ := List.getElem?_eq_some_iff.1 hlj
        obtain ⟨cs, h1, h2⟩ := hl j hjl
        have hcs : cs = [S l[j]] := h1
        have := h2 0 (S l[j]) (by rw [hcs]; rfl)
        rw [hw.cell hI, ← hlj]
        simpa [tStr, Ty.flat] using this

set_option maxRecDepth 100000 in
theorem lib_Equal (I : IH) (v1 v2 : Value) (l m : List Bytes) (hv1 : RdS tStr I v1 l) (hv2 : RdS tStr I v2 m) (w : World) (hw : Ok I w) :
    Calls Tryz.prog 54 #[v1, v2] w fun e w' => e = .returned (.bool (decide (l = m))) ∧ Below w.heap.size w w' := by
  have hb1 := hv1.len_le
  have hb2 := hv2.len_le
  obtain ⟨ao, cap, rfl, hcap, hcm, hh⟩ := id hv1
  obtain ⟨ao2, cap2, rfl, hcap2, hcm2, hh2⟩ := id hv2
  by_cases hlm : l.length = m.length
  case neg =>
    refine (Tryz.slices_Equal_string_lens ao ao2 l.length cap m.length cap2 w hlm).mono fun e w' ⟨h1, h2⟩ => ⟨?_, by rw [h2]; exact Below.refl _ _⟩
    rw [h1, decide_eq_false]
    intro e; exact hlm (by rw [e])
  by_cases h0 : l = []
  · subst h0
    have hm : m = [] := List.eq_nil_of_length_eq_zero (by rw [← hlm]; rfl)
    subst hm
    exact (Tryz.slices_Equal_string_empty ao ao2 cap 0 cap2 w (by decide)).mono fun e w' ⟨h1, h2⟩ => ⟨h1, by rw [h2]; exact Below.refl _ _⟩
  · have hpos : 0 < l.length := List.length_pos_iff.2 h0
    obtain ⟨b, off, arr, rfl, hI, hl⟩ := hh hpos
    obtain ⟨b2, off2, arr2, rfl, hI2, hl2⟩ := hh2 (by omega)
    have cellsOf : ∀ (l : List Bytes) (b off : Nat) (arr : Array Value), I b = some arr → Lies tStr I arr off l → ∀ j, j < (l.map fun s => (⟨s.toArray⟩ : ByteArray)).length → w.cell? ⟨b, off + j, none⟩ = some (.string ((l.map fun s => (⟨s.toArray⟩ : ByteArray)).getD j ByteArray.empty)) := by
      intro l b off arr hI hl j hj
      rw [List.length_map] at hj
      obtain ⟨cs, h1, h2⟩ := hl j hj
      have hcs : cs = [S l[j]] := h1
      have := h2 0 (S l[j]) (by rw [hcs]; rfl)
      rw [hw.cell hI, List.getD_eq_getElem?_getD, List.getElem?_map, List.getElem?_eq_getElem hj]
      simpa [tStr, Ty.flat] using this
    have h := Tryz.slices_Equal_string b off l.length cap b2 off2 m.length cap2 (l.map fun s => ⟨s.toArray⟩) (m.map fun s => ⟨s.toArray⟩) w (by rw [List.length_map]; exact Nat.le_refl _) (by rw [List.length_map]; exact Nat.le_refl _) hb1 hb2 (cellsOf l b off arr hI hl) (cellsOf m b2 off2 arr2 hI2 hl2)
    refine h.mono fun e w' ⟨h1, q, h2⟩ => ⟨?_, by rw [h2]; exact below_drewN _ _⟩
    rw [h1]
    congr 2
    rw [decide_eq_decide, List.take_of_length_le (by simp), List.take_of_length_le (by simp)]
    constructor
    · intro e
      have := congrArg (List.map fun b : ByteArray => b.data.toList) e
      rw [List.map_map, List.map_map] at this
      have hid : ((fun b : ByteArray => b.data.toList) ∘ fun s : Bytes => (⟨s.toArray⟩ : ByteArray)) = id := by funext s; simp
      rw [hid, List.map_id, List.map_id] at this
      exact this
    · intro e; rw [e]
end Go.Proofs.YtcbmdghnlbieeaaGreatDoor
namespace Go.Proofs.YtcbmdghnlbieeaaGreatDoor
open Go.RowKit

section
variable {α : Type}
def idxL (l : List α) (p : α → Bool) : Int := match l.findIdx? p with | some i => i | none => -1
theorem idxL_none {l : List α} {p : α → Bool} (h : l.any p = false) : idxL l p = -1 := by
  have : l.findIdx? p = none := by
    rw [List.findIdx?_eq_none_iff]
    intro x hx
    cases hp : p x with
    | false => rfl
    | true => rw [List.any_eq_true.2 ⟨x, hx, hp⟩] at h; exact absurd h (by simp)
  rw [idxL, this]
theorem idxL_some {l : List α} {p : α → Bool} {i : Nat} (hi : i < l.length) (hp : p l[i] = true) (hn : (l.take i).any p = false) : idxL l p = i := by
  have : l.findIdx? p = some i := by
    rw [List.findIdx?_eq_some_iff_getElem]
    refine ⟨hi, hp, fun j hj => ?_⟩
    cases hq : p l[j] with
    | false => simp
    | true =>
      have hjl : j < (l.take i).length := by simp; omega
      rw [List.any_eq_true.2 ⟨(l.take i)[j], List.getElem_mem hjl, by rw [List.getElem_take]; exact hq⟩] at hn
      exact absurd hn (by simp)
  rw [idxL, this]
theorem idxL_cases (l : List α) (p : α → Bool) : (∃ i : Nat, ∃ h : i < l.length, idxL l p = i ∧ p l[i] = true ∧ (l.take i).any p = false) ∨ (idxL l p = -1 ∧ l.any p = false) := by
  unfold idxL
  cases h : l.findIdx? p with
  | none =>
    right
    refine ⟨rfl, ?_⟩
    rw [List.findIdx?_eq_none_iff] at h
    cases ha : l.any p with
    | false => rfl
    | true =>
      obtain ⟨x, hx, hp⟩ := List.any_eq_true.1 ha
      rw [h x hx] at hp; exact absurd hp (by simp)
  | some i =>
    left
    rw [List.findIdx?_eq_some_iff_getElem] at h
    obtain ⟨hi, h1, h2⟩ := h
    refine ⟨i, hi, rfl, h1, ?_⟩
    cases ha : (l.take i).any p with
    | false => rfl
    | true =>
      obtain ⟨x, hx, hp⟩ := List.any_eq_true.1 ha
      obtain ⟨j, hj, rfl⟩ := List.getElem_of_mem hx
      rw [List.getElem_take] at hp
      have hji : j < i := by simp at hj; omega
      have := h2 j hji
      simp [hp] at this
end

/-- The rune predicate of a component. -/
def allowedR (r : Nat) : Bool := !(notAllowed r)

set_option maxRecDepth 100000 in
set_option maxHeartbeats 400000 in
theorem pn_allowed (c : Nat) (w : World) : Calls Tryz.prog 105 #[.int .i32 (c : Int)] w fun e w' => e = .returned (.bool (allowedR c)) ∧ w' = w := by
  rcases (show (97 ≤ c ∧ c ≤ 122) ∨ 122 < c ∨ (48 ≤ c ∧ c ≤ 57) ∨ c = 46 ∨ c = 95 ∨ c = 45 ∨ (c < 48 ∧ c ≠ 46 ∧ c ≠ 45) ∨ (57 < c ∧ c < 97 ∧ c ≠ 95) by omega) with hc | hc | hc | hc | hc | hc | hc | hc
  · have d97 : decide (97 ≤ (c : Int)) = true := by simp; omega
    have d122 : decide ((c : Int) ≤ 122) = true := by simp; omega
    have d48 : decide (48 ≤ (c : Int)) = true := by simp; omega
    have d57 : decide ((c : Int) ≤ 57) = false := by simp; omega
    have n46 : ((c : Int) == 46) = false := by simp; omega
    have n95 : ((c : Int) == 95) = false := by simp; omega
    have n45 : ((c : Int) == 45) = false := by simp; omega
    have Hv := Lib.hid (show allowedR c = true by unfold allowedR notAllowed; simp; omega)
    clear hc
    go_enter Tryz.func105, Tryz.ntmps105
    go_wp2
    go_ret
    exact ⟨ret_b Hv.out.symm, rfl⟩
  · have d97 : decide (97 ≤ (c : Int)) = true := by simp; omega
    have d122 : decide ((c : Int) ≤ 122) = false := by simp; omega
    have d48 : decide (48 ≤ (c : Int)) = true := by simp; omega
    have d57 : decide ((c : Int) ≤ 57) = false := by simp; omega
    have n46 : ((c : Int) == 46) = false := by simp; omega
    have n95 : ((c : Int) == 95) = false := by simp; omega
    have n45 : ((c : Int) == 45) = false := by simp; omega
    have Hv := Lib.hid (show allowedR c = false by unfold allowedR notAllowed; simp; omega)
    clear hc
    go_enter Tryz.func105, Tryz.ntmps105
    go_wp2
    go_ret
    exact ⟨ret_b Hv.out.symm, rfl⟩
  · have d97 : decide (97 ≤ (c : Int)) = false := by simp; omega
    have d122 : decide ((c : Int) ≤ 122) = true := by simp; omega
    have d48 : decide (48 ≤ (c : Int)) = true := by simp; omega
    have d57 : decide ((c : Int) ≤ 57) = true := by simp; omega
    have n46 : ((c : Int) == 46) = false := by simp; omega
    have n95 : ((c : Int) == 95) = false := by simp; omega
    have n45 : ((c : Int) == 45) = false := by simp; omega
    have Hv := Lib.hid (show allowedR c = true by unfold allowedR notAllowed; simp; omega)
    clear hc
    go_enter Tryz.func105, Tryz.ntmps105
    go_wp2
    go_ret
    exact ⟨ret_b Hv.out.symm, rfl⟩
  · have d97 : decide (97 ≤ (c : Int)) = false := by simp; omega
    have d122 : decide ((c : Int) ≤ 122) = true := by simp; omega
    have d48 : decide (48 ≤ (c : Int)) = false := by simp; omega
    have d57 : decide ((c : Int) ≤ 57) = true := by simp; omega
    have n46 : ((c : Int) == 46) = true := by simp; omega
    have n95 : ((c : Int) == 95) = false := by simp; omega
    have n45 : ((c : Int) == 45) = false := by simp; omega
    have Hv := Lib.hid (show allowedR c = true by unfold allowedR notAllowed; simp; omega)
    clear hc
    go_enter Tryz.func105, Tryz.ntmps105
    go_wp2
    go_ret
    exact ⟨ret_b Hv.out.symm, rfl⟩
  · have d97 : decide (97 ≤ (c : Int)) = false := by simp; omega
    have d122 : decide ((c : Int) ≤ 122) = true := by simp; omega
    have d48 : decide (48 ≤ (c : Int)) = true := by simp; omega
    have d57 : decide ((c : Int) ≤ 57) = false := by simp; omega
    have n46 : ((c : Int) == 46) = false := by simp; omega
    have n95 : ((c : Int) == 95) = true := by simp; omega
    have n45 : ((c : Int) == 45) = false := by simp; omega
    have Hv := Lib.hid (show allowedR c = true by unfold allowedR notAllowed; simp; omega)
    clear hc
    go_enter Tryz.func105, Tryz.ntmps105
    go_wp2
    go_ret
    exact ⟨ret_b Hv.out.symm, rfl⟩
  · have d97 : decide (97 ≤ (c : Int)) = false := by simp; omega
    have d122 : decide ((c : Int) ≤ 122) = true := by simp; omega
    have d48 : decide (48 ≤ (c : Int)) = false := by simp; omega
    have d57 : decide ((c : Int) ≤ 57) = true := by simp; omega
    have n46 : ((c : Int) == 46) = false := by simp; omega
    have n95 : ((c : Int) == 95) = false := by simp; omega
    have n45 : ((c : Int) == 45) = true := by simp; omega
    have Hv := Lib.hid (show allowedR c = true by unfold allowedR notAllowed; simp; omega)
    clear hc
    go_enter Tryz.func105, Tryz.ntmps105
    go_wp2
    go_ret
    exact ⟨ret_b Hv.out.symm, rfl⟩
  · have d97 : decide (97 ≤ (c : Int)) = false := by simp; omega
    have d122 : decide ((c : Int) ≤ 122) = true := by simp; omega
    have d48 : decide (48 ≤ (c : Int)) = false := by simp; omega
    have d57 : decide ((c : Int) ≤ 57) = true := by simp; omega
    have n46 : ((c : Int) == 46) = false := by simp; omega
    have n95 : ((c : Int) == 95) = false := by simp; omega
    have n45 : ((c : Int) == 45) = false := by simp; omega
    have Hv := Lib.hid (show allowedR c = false by unfold allowedR notAllowed; simp; omega)
    clear hc
    go_enter Tryz.func105, Tryz.ntmps105
    go_wp2
    go_ret
    exact ⟨ret_b Hv.out.symm, rfl⟩
  · have d97 : decide (97 ≤ (c : Int)) = false := by simp; omega
    have d122 : decide ((c : Int) ≤ 122) = true := by simp; omega
    have d48 : decide (48 ≤ (c : Int)) = true := by simp; omega
    have d57 : decide ((c : Int) ≤ 57) = false := by simp; omega
    have n46 : ((c : Int) == 46) = false := by simp; omega
    have n95 : ((c : Int) == 95) = false := by simp; omega
    have n45 : ((c : Int) == 45) = false := by simp; omega
    have Hv := Lib.hid (show allowedR c = false by unfold allowedR notAllowed; simp; omega)
    clear hc
    go_enter Tryz.func105, Tryz.ntmps105
    go_wp2
    go_ret
    exact ⟨ret_b Hv.out.symm, rfl⟩

set_option maxRecDepth 100000 in
theorem pn_component1 (c : Nat) (w : World) : Calls Tryz.prog 104 #[.int .i32 (c : Int)] w fun e w' => e = .returned (.bool (notAllowed c)) ∧ w' = w := by
  go_enter Tryz.func104, Tryz.ntmps104
  go_wp2_with fail
  refine (pn_allowed c _).mono ?_
  rintro e w1 ⟨rfl, rfl⟩
  go_wp2
  go_ret
  exact ⟨ret_b (by rw [allowedR, Bool.not_not]), rfl⟩

set_option maxRecDepth 100000 in
set_option maxHeartbeats 400000 in
theorem pn_component (s : Bytes) (hs : s.length ≤ 9223372036854775807) (w : World) :
    Calls Tryz.prog 68 #[S s] w fun e w' => e = .returned (.bool (comp s)) ∧ Below w.heap.size w w' := by
  by_cases h1 : 1 ≤ s.length
  case neg =>
    have hd1 : decide (1 ≤ s.length) = false := decide_eq_false h1
    have Hok := Lib.hid (show comp s = false by simp [comp, h1])
    go_enter Tryz.func68, Tryz.ntmps68
    go_wp2
    go_ret
    exact ⟨ret_b Hok.out.symm, Below.refl _ _⟩
  have hd1 : decide (1 ≤ s.length) = true := decide_eq_true h1
  by_cases h32 : s.length ≤ 32
  case neg =>
    have hd2 : decide (s.length ≤ 32) = false := decide_eq_false h32
    have Hok := Lib.hid (show comp s = false by simp [comp, h32])
    go_enter Tryz.func68, Tryz.ntmps68
    go_wp2
    go_ret
    exact ⟨ret_b Hok.out.symm, Below.refl _ _⟩
  have hd2 : decide (s.length ≤ 32) = true := decide_eq_true h32
  by_cases h46 : s = [46]
  case pos =>
    subst h46
    have Hok := Lib.hid (show comp [46] = false by rfl)
    clear hs h1 hd1 h32 hd2
    go_enter Tryz.func68, Tryz.ntmps68
    go_wp2
    go_ret
    exact ⟨ret_b Hok.out.symm, Below.refl _ _⟩
  have f46 : (s != [46]) = true := by simpa using h46
  have g46 : (s == [46]) = false := by simpa using h46
  by_cases h47 : s = [46, 46]
  case pos =>
    subst h47
    have Hok := Lib.hid (show comp [46, 46] = false by rfl)
    clear hs h1 hd1 h32 hd2 h46 f46 g46
    go_enter Tryz.func68, Tryz.ntmps68
    go_wp2
    go_ret
    exact ⟨ret_b Hok.out.symm, Below.refl _ _⟩
  have f47 : (s != [46, 46]) = true := by simpa using h47
  have g47 : (s == [46, 46]) = false := by simpa using h47
  have Hok := Lib.hid (show comp s = !(decide (0 ≤ Lib.idxFunc notAllowed true ⟨s.toArray⟩)) by rw [idx_comp, Bool.not_not]; simp [comp, h1, h32, f46, f47])
  have Hcf := Lib.hid (lib_ContainsFunc 104 notAllowed s w (fun _ _ => by kernel_rfl) (fun x W => pn_component1 x W))
  generalize decide (0 ≤ Lib.idxFunc notAllowed true ⟨s.toArray⟩) = bb at Hok Hcf
  clear h46 h47
  go_enter Tryz.func68, Tryz.ntmps68
  go_wp2_with fail
  refine Hcf.out.mono ?_
  rintro e w1 ⟨rfl, hb1⟩
  go_wp2
  go_ret
  exact ⟨ret_b Hok.out.symm, hb1⟩

set_option maxRecDepth 100000 in
set_option maxHeartbeats 400000 in
theorem pn_elements (I : IH) (hI : Glob I) (s : Bytes) (hs : s.length ≤ 4294967280) (w : World) (hw : Ok I w) :
    Calls Tryz.prog 65 #[S s] w (RetS tStr I w (els s)) := by
  by_cases h0 : s = []
  · obtain ⟨p1, p2, p3, p4⟩ := eq_emp h0
    have Hs := Lib.hid (show els s = [] by rw [h0]; rfl)
    clear h0
    go_enter Tryz.func65, Tryz.ntmps65
    go_wp2
    go_ret
    rw [Hs.out]
    exact ⟨_, I, rfl, Below.refl _ _, Ext.refl _ _, hw, RdS.nil _ _⟩
  · obtain ⟨p1, p2, p3, p4⟩ := ne_emp h0
    have Hs := Lib.hid (show els s = elsGo [] s by rw [els, if_neg h0])
    have Hl := Lib.hid (lib_Split I hI s hs w hw)
    generalize elsGo [] s = l at Hs Hl
    clear h0
    go_enter Tryz.func65, Tryz.ntmps65
    go_wp2_with fail
    refine Hl.out.mono ?_
    rintro e w1 ⟨v1, I1, rfl, hb1, hx1, hok1, hr1⟩
    obtain ⟨ao, cap, rfl, hcap, hcm, _⟩ := id hr1
    go_wp2
    go_ret
    rw [Hs.out]
    exact ⟨_, I1, rfl, hb1, hx1, hok1, hr1⟩

set_option maxRecDepth 100000 in
theorem pn_Check1 (s : Bytes) (hs : s.length ≤ 9223372036854775807) (w : World) :
    Calls Tryz.prog 67 #[S s] w fun e w' => e = .returned (.bool (!(comp s))) ∧ Below w.heap.size w w' := by
  go_enter Tryz.func67, Tryz.ntmps67
  go_wp2_with fail
  refine (pn_component s hs _).mono ?_
  rintro e w1 ⟨rfl, hb1⟩
  go_wp2
  go_ret
  exact ⟨rfl, hb1⟩

set_option maxRecDepth 100000 in
set_option maxHeartbeats 400000 in
theorem lib_IndexFuncS (I : IH) (v : Value) (l : List Bytes) (hv : RdS tStr I v l) (g : Nat) (p : Bytes → Bool) (w : World) (hw : Ok I w) (eg : ∀ args w, (callFunc g args).run Tryz.prog w = .ok (.enter g args) w) (hp : ∀ x ∈ l, ∀ W : World, Calls Tryz.prog g #[S x] W fun e w' => e = .returned (.bool (p x)) ∧ Below W.heap.size W w') :
    Calls Tryz.prog 102 #[v, .func (.func g) #[] #[]] w fun e w' => e = .returned (.int .i64 (idxL l p)) ∧ Below w.heap.size w w' := by
  have hlen := hv.len_le
  obtain ⟨ao, cap, rfl, hcap, hcm, _⟩ := id hv
  have Hv := Lib.hid hv; clear hv
  have Hp := Lib.hid hp; clear hp
  go_enter Tryz.func102, Tryz.ntmps102
  go_wp2_with fail
  go_loopw [8] (fun s8 wr => ∃ k : Nat, k ≤ l.length ∧ s8 = .int .i64 k ∧ (l.take k).any p = false ∧ Below w.heap.size w wr) (fun i _ => l.length - (intOf i).toNat)
  case atStart => exact ⟨0, Nat.zero_le _, rfl, rfl, Below.refl _ _⟩
  case round =>
    obtain ⟨k, hk, rfl, hr, hb⟩ := hrel
    have Hr := Lib.hid hr; clear hr
    by_cases hlt : k < l.length
    · have hwr : Ok I wr := hw.below (Nat.le_refl _) hb
      obtain ⟨x, b, off, cap', hlx, hvv, hc0⟩ := strAt Hv.out hwr k hlt
      cases hvv
      have Hlx := Lib.hid hlx
      have Hcall := Lib.hid (Hp.out x (by rw [← hlx]; exact List.getElem_mem hlt))
      clear hlx
      go_wp2_with fail
      refine (Hcall.out _).mono ?_
      rintro e w1 ⟨rfl, hb1⟩
      have hb1' := hb.trans (hb1.mono hb.size)
      clear hb1 Hcall
      cases hpx : p x
      · have Hn := Lib.hid (show (l.take (k + 1)).any p = false by rw [List.take_succ_eq_append_getElem hlt, List.any_append, Hr.out, Hlx.out]; simp [hpx])
        clear hpx
        go_wp2
        go_roundw
        case rel => exact ⟨k + 1, by omega, by go_num, Hn.out, hb1'⟩
        case measure => simp [intOf]; omega
      · have Hn := Lib.hid (idxL_some (p := p) hlt (by rw [Hlx.out]; exact hpx) Hr.out)
        clear hpx
        go_wp2
        go_ret
        exact ⟨ret_i Hn.out.symm, hb1'⟩
    · have Hn := Lib.hid (show idxL l p = -1 from idxL_none (by have := Hr.out; rwa [List.take_of_length_le (by omega)] at this))
      go_wp2
      go_ret
      exact ⟨ret_i Hn.out.symm, hb⟩

set_option maxRecDepth 100000 in
theorem lib_ContainsFuncS (I : IH) (v : Value) (l : List Bytes) (hv : RdS tStr I v l) (g : Nat) (p : Bytes → Bool) (w : World) (hw : Ok I w) (eg : ∀ args w, (callFunc g args).run Tryz.prog w = .ok (.enter g args) w) (hp : ∀ x ∈ l, ∀ W : World, Calls Tryz.prog g #[S x] W fun e w' => e = .returned (.bool (p x)) ∧ Below W.heap.size W w') :
    Calls Tryz.prog 66 #[v, .func (.func g) #[] #[]] w fun e w' => e = .returned (.bool (l.any p)) ∧ Below w.heap.size w w' := by
  have Hi := Lib.hid (lib_IndexFuncS I v l hv g p w hw eg hp)
  obtain ⟨ao, cap, rfl, hcap, hcm, _⟩ := id hv
  clear hv hp eg
  rcases idxL_cases l p with ⟨i, hi, e1, e2, _⟩ | ⟨e1, e2⟩
  · have Ha := Lib.hid (show l.any p = true from List.any_eq_true.2 ⟨l[i], List.getElem_mem hi, e2⟩)
    have hd : decide ((0 : Int) ≤ (i : Int)) = true := decide_eq_true (by omega)
    rw [e1] at Hi
    clear e1 e2
    go_enter Tryz.func66, Tryz.ntmps66
    go_wp2_with fail
    refine Hi.out.mono ?_
    rintro e w1 ⟨rfl, hb1⟩
    go_wp2
    go_ret
    exact ⟨ret_b Ha.out.symm, hb1⟩
  · have Ha := Lib.hid e2
    rw [e1] at Hi
    clear e1 e2
    go_enter Tryz.func66, Tryz.ntmps66
    go_wp2_with fail
    refine Hi.out.mono ?_
    rintro e w1 ⟨rfl, hb1⟩
    go_wp2
    go_ret
    exact ⟨ret_b Ha.out.symm, hb1⟩
end Go.Proofs.YtcbmdghnlbieeaaGreatDoor
namespace Go.Proofs.YtcbmdghnlbieeaaGreatDoor
open Go.RowKit

theorem any_not (l : List Bytes) : l.any (fun s => !(comp s)) = !(l.all comp) := by
  induction l with
  | nil => rfl
  | cons x l ih => rw [List.any_cons, List.all_cons, ih, Bool.not_and]

set_option maxRecDepth 100000 in
set_option maxHeartbeats 400000 in
theorem pn_Check (I : IH) (hI : Glob I) (s : Bytes) (hs : s.length ≤ 4294967280) (w : World) (hw : Ok I w) :
    Calls Tryz.prog 29 #[S s] w fun e w' => e = .returned (.int .i64 (pathErr s)) ∧ Below w.heap.size w w' := by
  have Hel := Lib.hid (pn_elements I hI s hs w hw)
  have Hll := Lib.hid (fun (q : Bytes) (h : q ∈ els s) => els_len h)
  by_cases h200 : s.length ≤ 200
  case neg =>
    have hd : decide (200 < s.length) = true := decide_eq_true (by omega)
    have Hp := Lib.hid (show pathErr s = 6 by rw [pathErr, if_pos (by omega)])
    go_enter Tryz.func29, Tryz.ntmps29
    go_wp2_with fail
    refine Hel.out.mono ?_
    rintro e w1 ⟨v1, I1, rfl, hb1, hx1, hok1, hr1⟩
    obtain ⟨ao, cap, rfl, hcap, hcm, _⟩ := id hr1
    clear hr1
    go_wp2
    go_ret
    exact ⟨ret_i Hp.out.symm, hb1⟩
  have hd : decide (200 < s.length) = false := decide_eq_false (by omega)
  have Hp := Lib.hid (show pathErr s = if 8 < (els s).length then 6 else if (els s).all comp then 0 else 7 by rw [pathErr, if_neg (by omega)])
  generalize els s = l at Hel Hp Hll
  by_cases h8 : 8 < l.length
  case pos =>
    have Hp2 := Lib.hid (show pathErr s = 6 by rw [Hp.out, if_pos h8])
    go_enter Tryz.func29, Tryz.ntmps29
    go_wp2_with fail
    refine Hel.out.mono ?_
    rintro e w1 ⟨v1, I1, rfl, hb1, hx1, hok1, hr1⟩
    obtain ⟨ao, cap, rfl, hcap, hcm, _⟩ := id hr1
    clear hr1
    go_wp2
    go_ret
    exact ⟨ret_i Hp2.out.symm, hb1⟩
  have Hp2 := Lib.hid (show pathErr s = if l.all comp then 0 else 7 by rw [Hp.out, if_neg h8])
  go_enter Tryz.func29, Tryz.ntmps29
  go_wp2_with fail
  refine Hel.out.mono ?_
  rintro e w1 ⟨v1, I1, rfl, hb1, hx1, hok1, hr1⟩
  have Hcf := Lib.hid (lib_ContainsFuncS I1 v1 l hr1 67 (fun s => !(comp s)) w1 hok1 (fun _ _ => by kernel_rfl) (fun x hx W => pn_Check1 x (by have := Hll.out x hx; omega) W))
  rw [any_not] at Hcf
  obtain ⟨ao, cap, rfl, hcap, hcm, _⟩ := id hr1
  clear hr1
  go_wp2_with fail
  refine Hcf.out.mono ?_
  rintro e w2 ⟨rfl, hb2⟩
  cases ha : l.all comp
  · have Hn := Lib.hid (show pathErr s = 7 by rw [Hp2.out, ha]; rfl)
    clear ha
    go_wp2
    go_ret
    exact ⟨ret_i Hn.out.symm, hb1.trans (hb2.mono hb1.size)⟩
  · have Hn := Lib.hid (show pathErr s = 0 by rw [Hp2.out, ha]; rfl)
    clear ha
    go_wp2
    go_ret
    exact ⟨ret_i Hn.out.symm, hb1.trans (hb2.mono hb1.size)⟩

set_option maxRecDepth 100000 in
set_option maxHeartbeats 400000 in
theorem pn_Split (I : IH) (hI : Glob I) (s : Bytes) (hs : s.length ≤ 4294967280) (w : World) (hw : Ok I w) :
    Calls Tryz.prog 53 #[S s] w (RetL tStr I w (splP s).1 (splP s).2) := by
  have Hc := Lib.hid (pn_Check I hI s hs w hw)
  by_cases h0 : pathErr s = 0
  · rw [h0] at Hc
    have Hspl := Lib.hid (splP_ok h0)
    clear h0
    go_enter Tryz.func53, Tryz.ntmps53
    go_wp2_with fail
    refine Hc.out.mono ?_
    rintro e w1 ⟨rfl, hb1⟩
    have hok1 : Ok I w1 := hw.below (Nat.le_refl _) hb1
    go_wp2_with fail
    refine (pn_elements I hI s hs _ hok1).mono ?_
    rintro e w2 ⟨v2, I2, rfl, hb2, hx2, hok2, hr2⟩
    obtain ⟨ao, cap, rfl, hcap, hcm, _⟩ := id hr2
    go_wp2
    go_ret2
    rw [Hspl.out]
    exact ⟨_, I2, rfl, hb1.trans (hb2.mono hb1.size), hx2.mono hb1.size, hok2, hr2⟩
  · have Hspl := Lib.hid (splP_no h0)
    obtain ⟨q, hq⟩ : ∃ q, pathErr s = q := ⟨_, rfl⟩
    have hn : (q != 0) = true := by rw [← hq]; simpa using h0
    rw [hq] at Hspl Hc
    clear hq h0
    go_enter Tryz.func53, Tryz.ntmps53
    go_wp2_with fail
    refine Hc.out.mono ?_
    rintro e w1 ⟨rfl, hb1⟩
    have hok1 : Ok I w1 := hw.below (Nat.le_refl _) hb1
    go_wp2
    go_ret2
    rw [Hspl.out]
    exact ⟨_, I, rfl, hb1, Ext.refl _ _, hok1, RdS.nil _ _⟩

set_option maxRecDepth 100000 in
set_option maxHeartbeats 400000 in
theorem pn_Parent (I : IH) (hI : Glob I) (s : Bytes) (hs : s.length ≤ 4294967280) (w : World) (hw : Ok I w) :
    Calls Tryz.prog 41 #[S s] w fun e w' => e = .returned (.tuple #[S (parP s).1, .int .i64 (parP s).2]) ∧ Below w.heap.size w w' := by
  by_cases h0 : pathErr s = 0
  · have Hsp := Lib.hid (by have := pn_Split I hI s hs w hw; rw [splP_ok h0] at this; exact this)
    have hs2 := (pathErr_ok h0).1
    have hs8 := (pathErr_ok h0).2.1
    have Hpp := Lib.hid (show parP s = if s = [] then ([], 1) else (upP s, 0) by rw [parP, if_neg (by omega)])
    have hjl : (joinP (els s)).length ≤ 200 := by rw [joinP_els]; exact hs2
    have hel := els_nil (s := s)
    have hup : upP s = joinP ((els s).take ((els s).length - 1)) := by rw [upP, List.dropLast_eq_take]
    have Hjt := Lib.hid (joinP_take_le (els s) ((els s).length - 1))
    generalize els s = l at Hsp hjl hel hup Hjt hs8
    have Hel := Lib.hid hel
    have Hup := Lib.hid hup
    clear h0 hel hup
    go_enter Tryz.func41, Tryz.ntmps41
    go_wp2_with fail
    refine Hsp.out.mono ?_
    rintro e w1 ⟨v1, I1, rfl, hb1, hx1, hok1, hr1⟩
    obtain ⟨ao, cap, rfl, hcap, hcm, _⟩ := id hr1
    have Hr1 := Lib.hid hr1
    clear hr1 hx1
    have hml : maxLen = 9223372036854775807 := rfl
    by_cases hl0 : l.length = 0
    · have Hn := Lib.hid (show parP s = ([], 1) by rw [Hpp.out, if_pos (Hel.out.1 (List.eq_nil_of_length_eq_zero hl0))])
      have hz : ((l.length : Int) == 0) = true := by rw [hl0]; rfl
      clear hl0 hml
      go_wp2
      go_ret2
      rw [Hn.out]
      exact ⟨rfl, hb1⟩
    · have Hn := Lib.hid (show parP s = (joinP (l.take (l.length - 1)), 0) by
        rw [Hpp.out, if_neg (fun e => hl0 (by rw [Hel.out.2 e]; rfl)), Hup.out])
      have hz : ((l.length : Int) == 0) = false := by rw [beq_eq_false_iff_ne]; omega
      have hlp : 1 ≤ l.length := by omega
      have hi : IntKind.i64.wrap ((l.length : Int) - 1) = (l.length : Int) - 1 := IntWalk.i64_in _ (by omega)
      have hj : (0 : Int) ≤ (l.length : Int) - 1 := by omega
      have hj2 : (l.length : Int) - 1 ≤ (cap : Int) := by omega
      have hm : ((l.length : Int) - 1).toNat = l.length - 1 := by omega
      have Hr2 := Lib.hid (Hr1.out.takeS (n := l.length - 1) (by omega))
      have Hj2 := Lib.hid (lib_Join I1 _ _ Hr2.out (by have := Hjt.out; omega) (by rw [List.length_take]; omega) w1 hok1)
      clear hl0 hml
      go_wp2_with fail
      refine Hj2.out.mono ?_
      rintro e w2 ⟨rfl, hb2⟩
      go_wp2
      go_ret2
      rw [Hn.out]
      exact ⟨rfl, hb1.trans (hb2.mono hb1.size)⟩
  · have Hsp := Lib.hid (by have := pn_Split I hI s hs w hw; rw [splP_no h0] at this; exact this)
    obtain ⟨q, hq⟩ : ∃ q, pathErr s = q := ⟨_, rfl⟩
    have hn : (q != 0) = true := by rw [← hq]; simpa using h0
    have Hpp := Lib.hid (show parP s = ([], q) by rw [parP, if_pos h0, hq])
    rw [hq] at Hsp
    clear hq h0
    go_enter Tryz.func41, Tryz.ntmps41
    go_wp2_with fail
    refine Hsp.out.mono ?_
    rintro e w1 ⟨v1, I1, rfl, hb1, hx1, hok1, hr1⟩
    obtain ⟨ao, cap, rfl, hcap, hcm, _⟩ := id hr1
    go_wp2
    go_ret2
    rw [Hpp.out]
    exact ⟨rfl, hb1⟩

set_option maxRecDepth 100000 in
set_option maxHeartbeats 1000000 in
theorem pn_Under (I : IH) (hI : Glob I) (p d : Bytes) (hp : p.length ≤ 4294967280) (hd : d.length ≤ 4294967280) (w : World) (hw : Ok I w) :
    Calls Tryz.prog 22 #[S p, S d] w fun e w' => e = .returned (.bool (under p d)) ∧ Below w.heap.size w w' := by
  have Hsp := Lib.hid (pn_Split I hI p hp w hw)
  have Hu := Lib.hid (show under p d = (decide (pathErr p = 0) && decide (pathErr d = 0) && (els d).isPrefixOf (els p)) from rfl)
  have hq1 : (splP p).2 = pathErr p := by rw [splP]; split <;> simp_all
  have hq2 : (splP d).2 = pathErr d := by rw [splP]; split <;> simp_all
  have Hl1 := Lib.hid (fun h : pathErr p = 0 => show (splP p).1 = els p by rw [splP_ok h])
  have Hl2 := Lib.hid (fun h : pathErr d = 0 => show (splP d).1 = els d by rw [splP_ok h])
  have Hsd := Lib.hid (fun I hI w hw => pn_Split I hI d hd w hw)
  rw [hq1] at Hsp
  rw [hq2] at Hsd
  generalize (splP p).1 = l at Hsp Hl1
  generalize (splP d).1 = m at Hsd Hl2
  clear hq1 hq2
  go_enter Tryz.func22, Tryz.ntmps22
  go_wp2_with fail
  refine Hsp.out.mono ?_
  rintro e w1 ⟨v1, I1, rfl, hb1, hx1, hok1, hr1⟩
  have hI1 := hI.mono (hx1.keep hw (Nat.le_refl _))
  have Hr1 := Lib.hid hr1
  clear hr1
  obtain ⟨ao0, cap0, rfl, _, _, _⟩ := id Hr1.out
  go_wp2_with fail
  refine (Hsd.out I1 hI1 _ hok1).mono ?_
  rintro e w2 ⟨v2, I2, rfl, hb2, hx2, hok2, hr2⟩
  have hr1 := Hr1.out.mono (hx2.keep hok1 (Nat.le_refl _))
  have hb2' := hb1.trans (hb2.mono hb1.size)
  obtain ⟨ao, cap, e1, hcap, hcm, _⟩ := id hr1
  cases e1
  obtain ⟨ao2, cap2, rfl, hcap2, hcm2, _⟩ := id hr2
  have hlen := hr1.len_le
  have hlen2 := hr2.len_le
  have Hl := Lib.hid hr1
  have Hm := Lib.hid hr2
  clear hr1 hr2 Hr1 hb1 hb2 hx1 hx2
  by_cases h0 : pathErr p = 0
  case neg =>
    have Hn := Lib.hid (show under p d = false by rw [Hu.out, decide_eq_false h0]; rfl)
    obtain ⟨q, hq⟩ : ∃ q, pathErr p = q := ⟨_, rfl⟩
    have hn : (q == 0) = false := by rw [← hq]; simpa using h0
    rw [hq]
    clear hq h0
    go_wp2
    go_ret
    exact ⟨ret_b Hn.out.symm, hb2'⟩
  by_cases h1 : pathErr d = 0
  case neg =>
    have Hn := Lib.hid (show under p d = false by rw [Hu.out, decide_eq_false h1, Bool.and_false]; rfl)
    obtain ⟨q, hq⟩ : ∃ q, pathErr d = q := ⟨_, rfl⟩
    have hn : (q == 0) = false := by rw [← hq]; simpa using h1
    rw [hq, h0]
    clear hq h1 h0
    go_wp2
    go_ret
    exact ⟨ret_b Hn.out.symm, hb2'⟩
  have Hu2 := Lib.hid (show under p d = m.isPrefixOf l by rw [Hu.out, decide_eq_true h0, decide_eq_true h1, Hl1.out h0, Hl2.out h1]; rfl)
  rw [h0, h1]
  clear h0 h1
  by_cases hlm : m.length ≤ l.length
  case neg =>
    have hd1 : decide (m.length ≤ l.length) = false := decide_eq_false hlm
    have Hn := Lib.hid (show under p d = false by rw [Hu2.out]; exact prefix_short (by omega))
    go_wp2
    go_ret
    exact ⟨ret_b Hn.out.symm, hb2'⟩
  have hd1 : decide (m.length ≤ l.length) = true := decide_eq_true hlm
  have hcc : m.length ≤ cap0 := by omega
  have Hn := Lib.hid (show under p d = decide (l.take m.length = m) by rw [Hu2.out]; exact prefix_take l m)
  have Heq := Lib.hid (lib_Equal I2 _ _ _ _ (Hl.out.takeS hlm) Hm.out w2 hok2)
  generalize decide (l.take m.length = m) = bb at Hn Heq
  go_wp2_with fail
  refine Heq.out.mono ?_
  rintro e w3 ⟨rfl, hb3⟩
  go_wp2
  go_ret
  exact ⟨ret_b Hn.out.symm, hb2'.trans (hb3.mono hb2'.size)⟩

def cmpS (x y : Bytes) : Int := if Op.bytesLess x y then -1 else if Op.bytesLess y x then 1 else 0
set_option maxRecDepth 100000 in
theorem lib_isNaN (x : Bytes) (w : World) : Calls Tryz.prog 113 #[S x] w fun e w' => e = .returned (.bool false) ∧ w' = w := by
  have f : (x != x) = false := by simp
  have f2 : (x == x) = true := by simp
  go_enter Tryz.func113, Tryz.ntmps113
  go_wp2
  go_ret
  exact ⟨by first | rfl | (simp), rfl⟩

set_option maxRecDepth 100000 in
set_option maxHeartbeats 400000 in
theorem lib_cmp (x y : Bytes) (w : World) : Calls Tryz.prog 80 #[S x, S y] w fun e w' => e = .returned (.int .i64 (cmpS x y)) ∧ w' = w := by
  rcases bl_total x y with ht | ht | ht
  · have Hn := Lib.hid (show cmpS x y = -1 by rw [cmpS, ht]; rfl)
    go_enter Tryz.func80, Tryz.ntmps80
    go_wp2_with fail
    refine (lib_isNaN x _).mono ?_
    rintro e w1 ⟨rfl, rfl⟩
    go_wp2_with fail
    refine (lib_isNaN y _).mono ?_
    rintro e w2 ⟨rfl, rfl⟩
    go_wp2
    go_ret
    exact ⟨ret_i Hn.out.symm, rfl⟩
  · have f1 : Op.bytesLess x y = false := by rw [ht]; exact bl_irrefl _
    have f2 : Op.bytesLess y x = false := by rw [ht]; exact bl_irrefl _
    have f3 : (x == y) = true := by simp [ht]
    have f4 : (!(x == y)) = false := by simp [ht]
    have Hn := Lib.hid (show cmpS x y = 0 by rw [cmpS, f1, f2]; rfl)
    clear ht
    go_enter Tryz.func80, Tryz.ntmps80
    go_wp2_with fail
    refine (lib_isNaN x _).mono ?_
    rintro e w1 ⟨rfl, rfl⟩
    go_wp2_with fail
    refine (lib_isNaN y _).mono ?_
    rintro e w2 ⟨rfl, rfl⟩
    go_wp2
    go_ret
    exact ⟨ret_i Hn.out.symm, rfl⟩
  · have f1 := bl_asymm ht
    have f3 : (x == y) = false := by simpa using (bl_ne ht).symm
    have f4 : (!(x == y)) = true := by rw [f3]; rfl
    have Hn := Lib.hid (show cmpS x y = 1 by rw [cmpS, f1, ht]; rfl)
    go_enter Tryz.func80, Tryz.ntmps80
    go_wp2_with fail
    refine (lib_isNaN x _).mono ?_
    rintro e w1 ⟨rfl, rfl⟩
    go_wp2_with fail
    refine (lib_isNaN y _).mono ?_
    rintro e w2 ⟨rfl, rfl⟩
    go_wp2
    go_ret
    exact ⟨ret_i Hn.out.symm, rfl⟩
end Go.Proofs.YtcbmdghnlbieeaaGreatDoor
namespace Go.Proofs.YtcbmdghnlbieeaaGreatDoor
open Go.RowKit

theorem cmpS_cases (x y : Bytes) : (cmpS x y = -1 ∧ Op.bytesLess x y = true) ∨ (cmpS x y = 0 ∧ x = y) ∨ (cmpS x y = 1 ∧ Op.bytesLess y x = true) := by
  rcases bl_total x y with ht | ht | ht
  · exact .inl ⟨by rw [cmpS, ht]; rfl, ht⟩
  · exact .inr (.inl ⟨by rw [cmpS, ht, bl_irrefl]; rfl, ht⟩)
  · exact .inr (.inr ⟨by rw [cmpS, bl_asymm ht, ht]; rfl, ht⟩)

set_option maxRecDepth 100000 in
set_option maxHeartbeats 1000000 in
theorem lib_CompareFunc (I : IH) (v1 v2 : Value) (l m : List Bytes) (hv1 : RdS tStr I v1 l) (hv2 : RdS tStr I v2 m) (w : World) (hw : Ok I w) :
    Calls Tryz.prog 79 #[v1, v2, .func (.func 80) #[] #[]] w fun e w' => e = .returned (.int .i64 (cmpL l m)) ∧ Below w.heap.size w w' := by
  have hlen := hv1.len_le
  have hlen2 := hv2.len_le
  obtain ⟨ao, cap, rfl, hcap, hcm, _⟩ := id hv1
  obtain ⟨ao2, cap2, rfl, hcap2, hcm2, _⟩ := id hv2
  have Hl := Lib.hid hv1
  have Hm := Lib.hid hv2
  clear hv1 hv2
  have eg : ∀ args w, (callFunc 80 args).run Tryz.prog w = .ok (.enter 80 args) w := fun _ _ => by kernel_rfl
  go_enter Tryz.func79, Tryz.ntmps79
  go_wp2_with fail
  go_loopw [13] (fun s13 wr => ∃ k : Nat, k ≤ l.length ∧ k ≤ m.length ∧ s13 = .int .i64 k ∧ l.take k = m.take k ∧ Below w.heap.size w wr) (fun i _ => l.length - (intOf i).toNat)
  case atStart => exact ⟨0, Nat.zero_le _, Nat.zero_le _, rfl, rfl, Below.refl _ _⟩
  case round =>
    obtain ⟨k, hk, hk2, rfl, hr, hb⟩ := hrel
    have Hr := Lib.hid hr
    have Hcd := Lib.hid (cmpL_drop hr hk hk2)
    clear hr
    have hwr : Ok I wr := hw.below (Nat.le_refl _) hb
    by_cases hlt : k < l.length
    case neg =>
      have Hdl := Lib.hid (show l.drop k = [] from List.drop_of_length_le (by omega))
      by_cases hlt2 : k < m.length
      · have hd1 : decide (l.length < m.length) = true := decide_eq_true (by omega)
        have Hn := Lib.hid (show cmpL l m = -1 by rw [Hcd.out, Hdl.out, List.drop_eq_getElem_cons hlt2]; rfl)
        go_wp2
        go_ret
        exact ⟨ret_i Hn.out.symm, hb⟩
      · have hd1 : decide (l.length < m.length) = false := decide_eq_false (by omega)
        have Hn := Lib.hid (show cmpL l m = 0 by rw [Hcd.out, Hdl.out, List.drop_of_length_le (by omega)]; rfl)
        go_wp2
        go_ret
        exact ⟨ret_i Hn.out.symm, hb⟩
    obtain ⟨x, b, off, cap', hlx, hvv, hx0⟩ := strAt Hl.out hwr k hlt
    cases hvv
    by_cases hlt2 : k < m.length
    case neg =>
      have hd1 : decide (m.length ≤ k) = true := decide_eq_true (by omega)
      have Hn := Lib.hid (show cmpL l m = 1 by rw [Hcd.out, List.drop_of_length_le (l := m) (by omega), List.drop_eq_getElem_cons hlt]; rfl)
      clear hlx
      go_wp2
      go_ret
      exact ⟨ret_i Hn.out.symm, hb⟩
    have hd1 : decide (m.length ≤ k) = false := decide_eq_false (by omega)
    obtain ⟨y, b', off', cap'', hly, hvv, hy0⟩ := strAt Hm.out hwr k hlt2
    cases hvv
    have Hcd2 := Lib.hid (show cmpL l m = cmpL (x :: l.drop (k + 1)) (y :: m.drop (k + 1)) by rw [Hcd.out, List.drop_eq_getElem_cons hlt, List.drop_eq_getElem_cons hlt2, hlx, hly])
    have Hlx := Lib.hid hlx
    have Hly := Lib.hid hly
    have Hc := Lib.hid (lib_cmp x y)
    have hcs := cmpS_cases x y
    generalize cmpS x y = c at Hc hcs
    clear hlx hly
    rcases hcs with ⟨hc, ht⟩ | ⟨hc, ht⟩ | ⟨hc, ht⟩
    · subst hc
      have Hn := Lib.hid (show cmpL l m = -1 by rw [Hcd2.out]; exact cmpL_cons_lt ht _ _)
      clear ht
      go_wp2_with fail
      refine (Hc.out _).mono ?_
      rintro e w1 ⟨rfl, rfl⟩
      go_wp2
      go_ret
      exact ⟨ret_i Hn.out.symm, hb⟩
    · subst hc
      have Hn := Lib.hid (show l.take (k + 1) = m.take (k + 1) by rw [List.take_succ_eq_append_getElem hlt, List.take_succ_eq_append_getElem hlt2, Hr.out, Hlx.out, Hly.out, ht])
      clear ht
      go_wp2_with fail
      refine (Hc.out _).mono ?_
      rintro e w1 ⟨rfl, rfl⟩
      go_wp2
      go_roundw
      case rel => exact ⟨k + 1, by omega, by omega, by go_num, Hn.out, hb⟩
      case measure => simp [intOf]; omega
    · subst hc
      have Hn := Lib.hid (show cmpL l m = 1 by rw [Hcd2.out]; exact cmpL_cons_gt ht _ _)
      clear ht
      go_wp2_with fail
      refine (Hc.out _).mono ?_
      rintro e w1 ⟨rfl, rfl⟩
      go_wp2
      go_ret
      exact ⟨ret_i Hn.out.symm, hb⟩

set_option maxRecDepth 100000 in
set_option maxHeartbeats 400000 in
theorem pn_Compare (I : IH) (hI : Glob I) (p d : Bytes) (hp : p.length ≤ 4294967280) (hd : d.length ≤ 4294967280) (w : World) (hw : Ok I w) :
    Calls Tryz.prog 45 #[S p, S d] w fun e w' => e = .returned (.int .i64 (cmpP p d)) ∧ Below w.heap.size w w' := by
  have Hu := Lib.hid (cmpP_eq p d)
  have Hep := Lib.hid (pn_elements I hI p hp w hw)
  have Hed := Lib.hid (fun I hI w hw => pn_elements I hI d hd w hw)
  generalize els p = l at Hu Hep
  generalize els d = m at Hu Hed
  go_enter Tryz.func45, Tryz.ntmps45
  go_wp2_with fail
  refine Hep.out.mono ?_
  rintro e w1 ⟨v1, I1, rfl, hb1, hx1, hok1, hr1⟩
  have hI1 := hI.mono (hx1.keep hw (Nat.le_refl _))
  have Hr1 := Lib.hid hr1
  clear hr1
  obtain ⟨ao0, cap0, rfl, _, _, _⟩ := id Hr1.out
  go_wp2_with fail
  refine (Hed.out I1 hI1 _ hok1).mono ?_
  rintro e w2 ⟨v2, I2, rfl, hb2, hx2, hok2, hr2⟩
  have hr1 := Hr1.out.mono (hx2.keep hok1 (Nat.le_refl _))
  have hb2' := hb1.trans (hb2.mono hb1.size)
  have Hc := Lib.hid (lib_CompareFunc I2 _ _ l m hr1 hr2 w2 hok2)
  obtain ⟨ao2, cap2, rfl, _, _, _⟩ := id hr2
  clear hr1 hr2 Hr1 hx1 hx2
  go_wp2_with fail
  refine Hc.out.mono ?_
  rintro e w3 ⟨rfl, hb3⟩
  go_wp2
  go_ret
  exact ⟨ret_i Hu.out.symm, hb2'.trans (hb3.mono hb2'.size)⟩
end Go.Proofs.YtcbmdghnlbieeaaGreatDoor
namespace Go.Proofs.YtcbmdghnlbieeaaGreatDoor
open Go.RowKit

abbrev cutset0 : Bytes := [97, 98, 99, 100, 101, 102, 103, 104, 105, 106, 107, 108, 109, 110, 111, 112, 113, 114, 115, 116, 117, 118, 119, 120, 121, 122, 48, 49, 50, 51, 52, 53, 54, 55, 56, 57, 46, 95, 45]
set_option maxRecDepth 100000 in
theorem cutset0_char (c : UInt8) : cutset0.contains c = keyChar c := by
  have h : ∀ n : Fin 256, cutset0.contains (UInt8.ofNat n.1) = keyChar (UInt8.ofNat n.1) := by decide
  have := h ⟨c.toNat, c.toNat_lt⟩
  simpa using this

theorem trimS_nil (s cs : Bytes) : Lib.trimS s cs = [] ↔ s.all (cs.contains ·) = true := by
  have hd : ∀ l : Bytes, l.dropWhile (cs.contains ·) = [] ↔ l.all (cs.contains ·) = true := by
    intro l
    induction l with
    | nil => simp
    | cons x l ih =>
      rw [List.dropWhile_cons, List.all_cons]
      cases h : cs.contains x
      · simp
      · simp only [if_true, Bool.true_and]; exact ih
  have hdd : ∀ l : Bytes, (l.dropWhile (cs.contains ·)).all (cs.contains ·) = l.all (cs.contains ·) := by
    intro l
    induction l with
    | nil => rfl
    | cons x l ih =>
      rw [List.dropWhile_cons]
      cases h : cs.contains x
      · rfl
      · simp only [if_true]; rw [ih, List.all_cons, h, Bool.true_and]
  unfold Lib.trimS Lib.trimLeftS Lib.trimRightS
  rw [hd, List.all_reverse, hdd, List.all_reverse]

set_option maxRecDepth 100000 in
theorem lib_Trim (s : Bytes) (hs : s.length ≤ 9223372036854775807) (w : World) :
    Calls Tryz.prog 163 #[S s, S cutset0] w fun e w' => e = .returned (S (Lib.trimS s cutset0)) ∧ Below w.heap.size w w' := by
  have h := Tryz.strings_Trim ⟨s.toArray⟩ ⟨cutset0.toArray⟩ w (by rw [ByteArray.size_mk', List.size_toArray]; exact hs) (by decide) (ascii_of_all (by decide))
  exact h

def keyErr (s : Bytes) : Int := if keyOk s then 0 else 7

set_option maxRecDepth 100000 in
set_option maxHeartbeats 400000 in
theorem at_key (s : Bytes) (hs : s.length ≤ 9223372036854775807) (w : World) :
    Calls Tryz.prog 140 #[S s] w fun e w' => e = .returned (.int .i64 (keyErr s)) ∧ Below w.heap.size w w' := by
  by_cases h1 : s = []
  · have hE : keyErr s = 7 := by rw [h1]; rfl
    have HE := Lib.hid hE
    have f1 : (s == []) = true := by rw [h1]; rfl
    have f2 : s.isEmpty = true := by rw [h1]; rfl
    have f3 : (!s.isEmpty) = false := by rw [h1]; rfl
    clear hE h1
    go_enter Tryz.func140, Tryz.ntmps140
    go_wp2
    go_ret
    exact ⟨ret_i HE.out.symm, Below.refl _ _⟩
  · have hlen : 1 ≤ s.length := by cases s <;> simp_all
    have f1 : (s == []) = false := by simpa using h1
    have f2 : s.isEmpty = false := by cases s <;> simp_all
    have f3 : (!s.isEmpty) = true := by rw [f2]; rfl
    clear h1
    by_cases h32 : s.length ≤ 32
    · have hd1 : decide (32 < s.length) = false := decide_eq_false (by omega)
      have hk : keyOk s = s.all (cutset0.contains ·) := by
        have : (fun c => cutset0.contains c) = keyChar := funext cutset0_char
        rw [this]; simp [keyOk, h32, hlen]
      have ht := trimS_nil s cutset0
      have Htr := Lib.hid (lib_Trim s hs)
      generalize hT : Lib.trimS s cutset0 = T at ht Htr
      by_cases hTn : T = []
      · have HE := Lib.hid (show keyErr s = 0 by rw [keyErr, hk, if_pos (ht.1 hTn)])
        have g1 : (T == []) = true := by rw [hTn]; rfl
        have g2 : T.isEmpty = true := by rw [hTn]; rfl
        have g3 : (!T.isEmpty) = false := by rw [hTn]; rfl
        clear hTn ht hk hT
        go_enter Tryz.func140, Tryz.ntmps140
        go_wp2_with fail
        refine (Htr.out _).mono ?_
        rintro e w1 ⟨rfl, hb1⟩
        go_wp2
        go_ret
        exact ⟨ret_i HE.out.symm, hb1⟩
      · have HE := Lib.hid (show keyErr s = 7 by rw [keyErr, hk, if_neg (fun h => hTn (ht.2 h))])
        have g1 : (T == []) = false := by simpa using hTn
        have g2 : T.isEmpty = false := by cases T <;> simp_all
        have g3 : (!T.isEmpty) = true := by rw [g2]; rfl
        clear hTn ht hk hT
        go_enter Tryz.func140, Tryz.ntmps140
        go_wp2_with fail
        refine (Htr.out _).mono ?_
        rintro e w1 ⟨rfl, hb1⟩
        go_wp2
        go_ret
        exact ⟨ret_i HE.out.symm, hb1⟩
    · have hd1 : decide (32 < s.length) = true := decide_eq_true (by omega)
      have HE := Lib.hid (show keyErr s = 7 by rw [keyErr, if_neg (by simp [keyOk, h32])])
      go_enter Tryz.func140, Tryz.ntmps140
      go_wp2
      go_ret
      exact ⟨ret_i HE.out.symm, Below.refl _ _⟩

set_option maxRecDepth 100000 in
set_option maxHeartbeats 400000 in
theorem at_attr (x : At) (hx : x.Wf) (w : World) :
    Calls Tryz.prog 109 #[x.val] w fun e w' => e = .returned (.int .i64 (atErr x)) ∧ Below w.heap.size w w' := by
  obtain ⟨hx1, hx2⟩ := hx
  cases hk : keyOk x.k
  · have HE := Lib.hid (show keyErr x.k = 7 by rw [keyErr, hk]; rfl)
    have HA := Lib.hid (show atErr x = 7 by rw [atErr, if_pos hk])
    clear hk
    go_enter Tryz.func109, Tryz.ntmps109
    go_wp2_with fail
    refine (at_key x.k hx1 _).mono ?_
    rintro e w1 ⟨rfl, hb1⟩
    rw [HE.out]
    go_wp2
    go_ret
    exact ⟨ret_i HA.out.symm, ((Below.refl _ _).alloc (Nat.le_refl _) _).trans (hb1.mono (by simp))⟩
  · have HE := Lib.hid (show keyErr x.k = 0 by rw [keyErr, hk]; rfl)
    have Hk := Lib.hid hk
    clear hk
    by_cases h64 : x.v.length ≤ 64
    · have hd : decide (64 < x.v.length) = false := decide_eq_false (by omega)
      have HA := Lib.hid (show atErr x = 0 by rw [atErr, if_neg (by rw [Hk.out]; simp), if_neg (by omega)])
      go_enter Tryz.func109, Tryz.ntmps109
      go_wp2_with fail
      refine (at_key x.k hx1 _).mono ?_
      rintro e w1 ⟨rfl, hb1⟩
      rw [HE.out]
      obtain ⟨hc0, hc1⟩ := atBox rfl hb1
      go_wp2
      go_ret
      exact ⟨ret_i HA.out.symm, ((Below.refl _ _).alloc (Nat.le_refl _) _).trans (hb1.mono (by simp))⟩
    · have hd : decide (64 < x.v.length) = true := decide_eq_true (by omega)
      have HA := Lib.hid (show atErr x = 6 by rw [atErr, if_neg (by rw [Hk.out]; simp), if_pos (by omega)])
      go_enter Tryz.func109, Tryz.ntmps109
      go_wp2_with fail
      refine (at_key x.k hx1 _).mono ?_
      rintro e w1 ⟨rfl, hb1⟩
      rw [HE.out]
      obtain ⟨hc0, hc1⟩ := atBox rfl hb1
      go_wp2
      go_ret
      exact ⟨ret_i HA.out.symm, ((Below.refl _ _).alloc (Nat.le_refl _) _).trans (hb1.mono (by simp))⟩

theorem cmp_bytes : ∀ (a b : Bytes), Lib.compareBytes a b = if Op.bytesLess a b then -1 else if a == b then 0 else 1
  | [], [] => rfl
  | [], _ :: _ => rfl
  | _ :: _, [] => rfl
  | x :: a, y :: b => by
    rw [Lib.compareBytes, cmp_bytes a b, Op.bytesLess]
    by_cases h1 : x < y
    · simp [h1]
    · by_cases h2 : y < x
      · have : ¬ x = y := fun e => by subst e; exact UInt8.lt_irrefl _ h2
        simp [h1, h2, this]
      · have e : x = y := UInt8.le_antisymm (UInt8.not_lt.1 h2) (UInt8.not_lt.1 h1)
        subst e
        simp

set_option maxRecDepth 100000 in
theorem lib_Compare (a b : Bytes) (w : World) : Calls Tryz.prog 110 #[S a, S b] w fun e w' => e = .returned (.int .i64 (Lib.compareBytes a b)) ∧ Below w.heap.size w w' :=
  (Tryz.strings_Compare ⟨a.toArray⟩ ⟨b.toArray⟩ w).mono fun _ _ ⟨h1, h2⟩ => ⟨h1, by rw [h2]; exact Below.refl _ _⟩
end Go.Proofs.YtcbmdghnlbieeaaGreatDoor
namespace Go.Proofs.YtcbmdghnlbieeaaGreatDoor
open Go.RowKit

set_option maxRecDepth 100000 in
set_option maxHeartbeats 1000000 in
theorem at_Check (I : IH) (v : Value) (l : List At) (hv : RdS tAt I v l) (hl : ∀ x ∈ l, x.Wf) (w : World) (hw : Ok I w) :
    Calls Tryz.prog 73 #[v] w fun e w' => e = .returned (.int .i64 (chk l)) ∧ Below w.heap.size w w' := by
  have hlen := hv.len_le
  obtain ⟨ao, cap, rfl, hcap, hcm, _⟩ := id hv
  have Hv := Lib.hid hv; clear hv
  have Hl := Lib.hid hl; clear hl
  by_cases h16 : l.length ≤ 16
  · have hd : decide (16 < l.length) = false := decide_eq_false (by omega)
    have Hchk := Lib.hid (show chk l = chkFrom none l by rw [chk, if_neg (by omega)])
    go_enter Tryz.func73, Tryz.ntmps73
    go_wp2_with fail
    go_loopw [11] (fun s11 wr => ∃ k : Nat, k ≤ l.length ∧ s11 = .int .i64 k ∧ chkFrom (if k = 0 then none else l[k-1]?) (l.drop k) = chkFrom none l ∧ Below w.heap.size w wr) (fun i _ => l.length - (intOf i).toNat)
    case atStart => exact ⟨0, Nat.zero_le _, rfl, rfl, Below.refl _ _⟩
    case round =>
      obtain ⟨k, hk, rfl, hr, hb⟩ := hrel
      have Hr := Lib.hid hr; clear hr
      by_cases hlt : k < l.length
      · have hwr : Ok I wr := hw.below (Nat.le_refl _) hb
        obtain ⟨x, b, off, cap', hlx, hvv, hc0, hc1⟩ := atAt Hv.out hwr k hlt
        cases hvv
        have hxm : x ∈ l := by rw [← hlx]; exact List.getElem_mem hlt
        have Hxw := Lib.hid (Hl.out x hxm)
        have Hst := Lib.hid (show chk l = if atErr x ≠ 0 then atErr x else if ((if k = 0 then none else l[k-1]?).any fun q => q.k == x.k) then 8 else if ((if k = 0 then none else l[k-1]?).any fun q => Op.bytesLess x.k q.k) then 14 else chkFrom (some x) (l.drop (k+1)) by
          rw [Hchk.out, ← Hr.out, List.drop_eq_getElem_cons hlt, hlx, chkFrom_step])
        have Hkx := Lib.hid (show l[k]? = some x by rw [List.getElem?_eq_getElem hlt, hlx])
        clear hlx hxm
        go_wp2_with fail
        refine (at_attr x Hxw.out _).mono ?_
        rintro e w1 ⟨rfl, hb1⟩
        obtain ⟨hx0, hx1⟩ := atBox rfl hb1
        have hb1' := (hb.alloc hb.size _).trans (hb1.mono (by have := hb.size; simp; omega))
        have hw1 : Ok I w1 := hw.below (Nat.le_refl _) hb1'
        clear hb1 hc0 hc1
        by_cases h0 : atErr x = 0
        · have H0 := Lib.hid h0
          rw [h0]
          clear h0
          by_cases hk0 : k = 0
          · have hd3 : ((k : Int) == 0) = true := by rw [hk0]; rfl
            have Hnx := Lib.hid (show chkFrom (if k + 1 = 0 then none else l[k+1-1]?) (l.drop (k+1)) = chkFrom none l by
              rw [← Hchk.out, Hst.out, H0.out, if_neg (by omega), Nat.add_sub_cancel, Hkx.out]; simp [hk0])
            clear hk0
            go_wp2
            go_roundw
            case rel => exact ⟨k + 1, by omega, by go_num, Hnx.out, hb1'⟩
            case measure => simp [intOf]; omega
          · obtain ⟨q, b', off', cap'', hlq, hvv, hp0, hp1⟩ := atAt Hv.out hw1 (k-1) (by omega)
            cases hvv
            have Hst2 := Lib.hid (show chk l = if (q.k == x.k) then 8 else if Op.bytesLess x.k q.k then 14 else chkFrom (some x) (l.drop (k+1)) by
              rw [Hst.out, H0.out, if_neg (by omega), if_neg hk0, List.getElem?_eq_getElem (by omega), hlq]; rfl)
            have hd3 : ((k : Int) == 0) = false := by rw [beq_eq_false_iff_ne]; omega
            have hi : IntKind.i64.wrap ((k : Int) - 1) = (k : Int) - 1 := IntWalk.i64_in _ (by omega)
            have hj : 0 ≤ (k : Int) - 1 := by omega
            have hm : ((k : Int) - 1).toNat = k - 1 := by omega
            have hg0 := cell_regrown hx0
            have hq0 := cell_regrown hp0
            have hcmp := cmp_bytes q.k x.k
            have Hcmp := Lib.hid (fun W => lib_Compare q.k x.k W)
            generalize Lib.compareBytes q.k x.k = r at hcmp Hcmp
            clear hlq
            rcases bl_total q.k x.k with ht | ht | ht
            · have hr1 : r = -1 := by rw [hcmp, ht]; rfl
              have Hnx := Lib.hid (show chkFrom (if k + 1 = 0 then none else l[k+1-1]?) (l.drop (k+1)) = chkFrom none l by
                have hbe : (q.k == x.k) = false := by simpa using bl_ne ht
                rw [← Hchk.out, Hst2.out, bl_asymm ht, hbe, Nat.add_sub_cancel, Hkx.out]; simp)
              subst hr1
              clear ht hcmp
              go_wp2_with fail
              refine wp_region_quiet_below (by kernel_rfl) (by kernel_rfl) ?_
              repeat (go_big_quiet_step ((with_reducible exact Calls.regrown_of (Hcmp.out _))))
              refine wpQuiet_nil ?_
              intro w2 hwq
              have hb2 : Below (w1).heap.size (w1) w2 := by
                obtain ⟨pq, rfl⟩ := hwq
                exact below_regrown _ _ _
              clear hwq
              go_wp2
              go_roundw
              case rel => exact ⟨k + 1, by omega, by go_num, Hnx.out, hb1'.trans (hb2.mono hb1'.size)⟩
              case measure => simp [intOf]; omega
            · have hbe : (q.k == x.k) = true := by rw [ht]; exact beq_self_eq_true _
              have hbl : Op.bytesLess q.k x.k = false := by rw [ht]; exact bl_irrefl _
              have hr1 : r = 0 := by rw [hcmp, hbl, hbe]; rfl
              have Hnx := Lib.hid (show chk l = 8 by rw [Hst2.out, if_pos hbe])
              subst hr1
              clear ht hcmp hbe hbl
              go_wp2_with fail
              refine wp_region_quiet_below (by kernel_rfl) (by kernel_rfl) ?_
              repeat (go_big_quiet_step ((with_reducible exact Calls.regrown_of (Hcmp.out _))))
              refine wpQuiet_nil ?_
              intro w2 hwq
              have hb2 : Below (w1).heap.size (w1) w2 := by
                obtain ⟨pq, rfl⟩ := hwq
                exact below_regrown _ _ _
              clear hwq
              go_wp2
              go_ret
              exact ⟨ret_i Hnx.out.symm, hb1'.trans (hb2.mono hb1'.size)⟩
            · have hne : (q.k == x.k) = false := by simpa using (bl_ne ht).symm
              have hr1 : r = 1 := by rw [hcmp, bl_asymm ht, hne]; rfl
              have Hnx := Lib.hid (show chk l = 14 by rw [Hst2.out, if_neg (by rw [hne]; simp), if_pos ht])
              subst hr1
              clear ht hcmp hne
              go_wp2_with fail
              refine wp_region_quiet_below (by kernel_rfl) (by kernel_rfl) ?_
              repeat (go_big_quiet_step ((with_reducible exact Calls.regrown_of (Hcmp.out _))))
              refine wpQuiet_nil ?_
              intro w2 hwq
              have hb2 : Below (w1).heap.size (w1) w2 := by
                obtain ⟨pq, rfl⟩ := hwq
                exact below_regrown _ _ _
              clear hwq
              go_wp2
              go_ret
              exact ⟨ret_i Hnx.out.symm, hb1'.trans (hb2.mono hb1'.size)⟩
        · obtain ⟨q, hq⟩ : ∃ q, atErr x = q := ⟨_, rfl⟩
          have hn0 : (q != 0) = true := by rw [← hq]; simpa using h0
          have Hs := Lib.hid (show chk l = q by rw [Hst.out, if_pos h0, hq])
          rw [hq]
          clear hq h0
          go_wp2
          go_ret
          exact ⟨ret_i Hs.out.symm, hb1'⟩
      · go_wp2
        go_ret
        refine ⟨ret_i ?_, hb⟩
        rw [Hchk.out, ← Hr.out, List.drop_of_length_le (by omega)]; rfl
  · have hd : decide (16 < l.length) = true := decide_eq_true (by omega)
    go_enter Tryz.func73, Tryz.ntmps73
    go_wp2
    go_ret
    exact ⟨ret_i (by rw [chk, if_pos (by omega)]), Below.refl _ _⟩
end Go.Proofs.YtcbmdghnlbieeaaGreatDoor
namespace Go.Proofs.YtcbmdghnlbieeaaGreatDoor

def digN (acc : Nat) (l : Bytes) : Nat := l.foldl (fun n c => 10 * n + (c.toNat - 48)) acc
theorem digN_snoc (acc : Nat) (l : Bytes) (c : UInt8) : digN acc (l ++ [c]) = 10 * digN acc l + (c.toNat - 48) := by simp [digN, List.foldl_append]
theorem digC_bd {c : UInt8} (h : digC c = true) : 48 ≤ c.toNat ∧ c.toNat ≤ 57 := by
  rw [digC_nat, Bool.and_eq_true, decide_eq_true_iff, decide_eq_true_iff] at h
  exact h
theorem digits_digN : ∀ (l : Bytes), l.all digC = true → ∀ (a : Nat), l.foldl (fun (n : Int) c => 10 * n + ((c.toNat : Int) - 48)) (a : Int) = (digN a l : Nat)
  | [], _, _ => rfl
  | c :: l, h, a => by
    rw [List.all_cons, Bool.and_eq_true] at h
    have hc := digC_bd h.1
    have := digits_digN l h.2 (10 * a + (c.toNat - 48))
    rw [List.foldl_cons, show (10 * (a : Int) + ((c.toNat : Int) - 48)) = ((10 * a + (c.toNat - 48) : Nat) : Int) by omega, this]
    rfl
theorem digits_nat {l : Bytes} (h : l.all digC = true) : digits l = (digN 0 l : Nat) := digits_digN l h 0

theorem parse_ok : ∀ (l : Bytes) (acc : Nat), l.all digC = true → (acc + 1) * 10 ^ l.length ≤ 100000000000 → Lib.parseUint10 acc l = .ok (digN acc l)
  | [], _, _, _ => rfl
  | c :: l, acc, h, hb => by
    rw [List.all_cons, Bool.and_eq_true] at h
    have hc := digC_bd h.1
    rw [List.length_cons, Nat.pow_succ] at hb
    have h10 : 1 ≤ 10 ^ l.length := Nat.pos_of_ne_zero (by simp)
    have hacc : (acc + 1) * 10 ≤ 100000000000 := by
      have : (acc + 1) * 10 * 1 ≤ (acc + 1) * 10 * 10 ^ l.length := Nat.mul_le_mul_left _ h10
      rw [Nat.mul_comm (10 ^ l.length) 10, ← Nat.mul_assoc] at hb
      omega
    have hn : (acc * 10 + (c.toNat - 48) + 1) * 10 ^ l.length ≤ 100000000000 := by
      refine Nat.le_trans (Nat.mul_le_mul_right _ (show acc * 10 + (c.toNat - 48) + 1 ≤ (acc + 1) * 10 by omega)) ?_
      rw [Nat.mul_assoc, Nat.mul_comm 10 (10 ^ l.length)]
      exact hb
    rw [Lib.parseUint10, if_pos hc, if_neg (by omega), if_neg (by omega), parse_ok l _ h.2 hn]
    show Lib.NumEnd.ok (digN _ l) = Lib.NumEnd.ok (digN (10 * acc + (c.toNat - 48)) l)
    rw [Nat.mul_comm acc 10]

theorem dig_head {c : UInt8} {l : Bytes} (h : (c :: l).all digC = true) (hc : c ≠ 48) : 10 ^ l.length ≤ digN 0 (c :: l) := by
  have key : ∀ (n : Nat) (l : Bytes), l.length = n → ∀ a, a * 10 ^ n ≤ digN a l := by
    intro n
    induction n with
    | zero => intro l h a; rw [List.eq_nil_of_length_eq_zero h]; simp [digN]
    | succ n ih =>
      intro l h a
      cases l with
      | nil => simp at h
      | cons c l =>
        have := ih l (by simpa using h) (10 * a + (c.toNat - 48))
        refine Nat.le_trans ?_ this
        rw [Nat.pow_succ, Nat.mul_comm (10 ^ n) 10, ← Nat.mul_assoc]
        exact Nat.mul_le_mul_right _ (by omega)
  rw [List.all_cons, Bool.and_eq_true] at h
  have hb := digC_bd h.1
  have hne : c.toNat ≠ 48 := fun e => hc (by
    have : c = UInt8.ofNat c.toNat := by simp
    rw [this, e]; rfl)
  have := key l.length l rfl (10 * 0 + (c.toNat - 48))
  refine Nat.le_trans ?_ this
  have h1 : 1 ≤ 10 * 0 + (c.toNat - 48) := by omega
  simpa using Nat.mul_le_mul_right (10 ^ l.length) h1

/-- Without a leading zero. -/
def NoZ (s : Bytes) : Prop := s.length = 1 ∨ s.head? ≠ some 48

theorem dec_digN : ∀ (n : Nat) (s : Bytes), s.length = n → s ≠ [] → s.all digC = true → NoZ s → Lib.decDigits (digN 0 s) = s := by
  intro n
  induction n with
  | zero => intro s h h0; exact absurd (List.eq_nil_of_length_eq_zero h) h0
  | succ n ih =>
    intro s h h0 ha hz
    have e : s = s.dropLast ++ [s.getLast h0] := (List.dropLast_concat_getLast h0).symm
    have hl : s.dropLast.length = n := by rw [List.length_dropLast, h]; omega
    have ha2 := ha
    rw [e, List.all_append, Bool.and_eq_true] at ha2
    have hc : digC (s.getLast h0) = true := by simpa using ha2.2
    have hb := digC_bd hc
    have hoc : UInt8.ofNat (48 + ((s.getLast h0).toNat - 48)) = s.getLast h0 := by
      rw [show 48 + ((s.getLast h0).toNat - 48) = (s.getLast h0).toNat by omega]; simp
    by_cases hn : n = 0
    · have ht : s.dropLast = [] := List.eq_nil_of_length_eq_zero (by omega)
      rw [e, ht, List.nil_append]
      have : digN 0 [s.getLast h0] = (s.getLast h0).toNat - 48 := by simp [digN]
      rw [this, Lib.decDigits, dif_pos (by omega), hoc]
    · have ht0 : s.dropLast ≠ [] := by intro e2; rw [e2] at hl; simp at hl; omega
      have hh : s.head? ≠ some 48 := by
        rcases hz with hz | hz
        · omega
        · exact hz
      have hhd : s.dropLast.head? = s.head? := by
        cases hd : s.dropLast with
        | nil => exact absurd hd ht0
        | cons a t => rw [e, hd]; rfl
      have i1 := ih s.dropLast hl ht0 ha2.1 (.inr (by rw [hhd]; exact hh))
      have hge : 1 ≤ digN 0 s.dropLast := by
        cases hd : s.dropLast with
        | nil => exact absurd hd ht0
        | cons a t =>
          have ha3 : (a :: t).all digC = true := by rw [← hd]; exact ha2.1
          have : 10 ^ t.length ≤ digN 0 (a :: t) := dig_head ha3 (fun e3 => hh (by rw [← hhd, hd, e3]; rfl))
          have h10 : 1 ≤ 10 ^ t.length := Nat.pos_of_ne_zero (by simp)
          omega
      have hs : digN 0 s = 10 * digN 0 s.dropLast + ((s.getLast h0).toNat - 48) := by
        conv => lhs; rw [e]
        exact digN_snoc _ _ _
      rw [hs, Lib.decDigits, dif_neg (by omega), show (10 * digN 0 s.dropLast + ((s.getLast h0).toNat - 48)) / 10 = digN 0 s.dropLast by omega, show (10 * digN 0 s.dropLast + ((s.getLast h0).toNat - 48)) % 10 = (s.getLast h0).toNat - 48 by omega, i1, hoc]
      exact e.symm

theorem digC_of {n : Nat} (h : n < 10) : digC (UInt8.ofNat (48 + n)) = true := by
  rw [digC_nat]
  simp
  omega
theorem dec_facts : ∀ (u : Nat), (Lib.decDigits u).all digC = true ∧ Lib.decDigits u ≠ [] ∧ digN 0 (Lib.decDigits u) = u ∧ (10 ≤ u → (Lib.decDigits u).head? ≠ some 48) ∧ (1 ≤ u → (Lib.decDigits u).head? ≠ some 48) := by
  intro u
  induction u using Nat.strongRecOn with
  | _ u ih =>
    by_cases h : u < 10
    · have e : Lib.decDigits u = [UInt8.ofNat (48 + u)] := by rw [Lib.decDigits, dif_pos h]
      have hd := digC_of h
      have ht : (UInt8.ofNat (48 + u)).toNat = 48 + u := by simp; omega
      rw [e]
      refine ⟨by rw [List.all_cons, hd]; rfl, by simp, by simp only [digN, List.foldl_cons, List.foldl_nil, ht]; omega, fun h2 => by omega, fun h2 he => ?_⟩
      simp only [List.head?_cons, Option.some.injEq] at he
      have := congrArg UInt8.toNat he
      rw [ht] at this
      have h48 : (48 : UInt8).toNat = 48 := rfl
      omega
    · have e : Lib.decDigits u = Lib.decDigits (u / 10) ++ [UInt8.ofNat (48 + u % 10)] := by rw [Lib.decDigits, dif_neg h]
      obtain ⟨i1, i2, i3, i4, i5⟩ := ih (u / 10) (by omega)
      have hd := digC_of (n := u % 10) (by omega)
      have ht : (UInt8.ofNat (48 + u % 10)).toNat = 48 + u % 10 := by simp; omega
      have hhd : (Lib.decDigits u).head? ≠ some 48 := by
        rw [e]
        cases hc : Lib.decDigits (u / 10) with
        | nil => exact absurd hc i2
        | cons a t =>
          have := i5 (by omega)
          rw [hc] at this
          exact this
      refine ⟨?_, ?_, ?_, fun _ => hhd, fun _ => hhd⟩
      · rw [e, List.all_append, i1, List.all_cons, hd]; rfl
      · rw [e]; simp
      · rw [e, digN_snoc, i3, ht]; omega

theorem date_iff (s : Bytes) : dateOk s = true ↔ ∃ n : Int, Lib.atoiAll s = .ok n ∧ 0 ≤ n ∧ n ≤ 1000000000 ∧ Lib.itoa n = s := by
  have hd : (fun c : UInt8 => decide (48 ≤ c) && decide (c ≤ 57)) = digC := rfl
  constructor
  · intro h
    unfold dateOk at h
    rw [hd] at h
    simp only [Bool.and_eq_true, decide_eq_true_eq] at h
    obtain ⟨⟨⟨⟨h1, h2⟩, h3⟩, h4⟩, h5⟩ := h
    have h0 : s ≠ [] := by intro e; rw [e] at h1; simp at h1
    have hz : NoZ s := by
      by_cases hl : s.length = 1
      · exact .inl hl
      · right
        intro e
        rw [e, decide_eq_true (show 1 < s.length by omega)] at h3
        simp at h3
    rw [digits_nat h4] at h5
    refine ⟨(digN 0 s : Nat), ?_, by omega, h5, ?_⟩
    · cases hs : s with
      | nil => exact absurd hs h0
      | cons c r =>
        have ha : (c :: r).all digC = true := by rw [← hs]; exact h4
        have hc : digC c = true := by rw [List.all_cons, Bool.and_eq_true] at ha; exact ha.1
        have hb := digC_bd hc
        have hlen : (c :: r).length ≤ 10 := by rw [← hs]; exact h2
        have hp := parse_ok (c :: r) 0 ha (by
          have : 10 ^ (c :: r).length ≤ 10 ^ 10 := Nat.pow_le_pow_right (by decide) hlen
          omega)
        rw [Lib.atoiAll]
        rw [if_neg (by omega), Lib.parseMag, if_neg (by simp), hp]
        rw [hs] at h5
        simp only
        rw [if_neg (by omega), if_neg (by omega), if_neg (by omega)]
    · rw [Lib.itoa, if_neg (by omega), Int.toNat_natCast]
      exact dec_digN _ s rfl h0 h4 hz
  · rintro ⟨n, _, h0, h1, h2⟩
    obtain ⟨u, rfl⟩ := Int.eq_ofNat_of_zero_le h0
    rw [Lib.itoa, if_neg (by omega), Int.toNat_natCast] at h2
    obtain ⟨f1, f2, f3, f4, f5⟩ := dec_facts u
    rw [h2] at f1 f2 f3 f4 f5
    have hdg : digits s = u := by rw [digits_nat f1, f3]
    unfold dateOk
    rw [hd, f1, hdg, decide_eq_true h1]
    have hl1 : 1 ≤ s.length := List.length_pos_iff.2 f2
    have hz : (decide (1 < s.length) && s.head? == some 48) = false := by
      cases hb : (decide (1 < s.length) && s.head? == some 48) with
      | false => rfl
      | true =>
        rw [Bool.and_eq_true, decide_eq_true_iff, beq_iff_eq] at hb
        by_cases hu : 1 ≤ u
        · exact absurd hb.2 (f5 hu)
        · have : u = 0 := by omega
          subst this
          have : s = [48] := by rw [← h2, Lib.decDigits, dif_pos (by decide)]; rfl
          rw [this] at hb
          simp at hb
    have hl10 : s.length ≤ 10 := by
      cases hs : s with
      | nil => simp
      | cons c r =>
        by_cases hu : 1 ≤ u
        · have hc : c ≠ 48 := fun e => f5 hu (by rw [hs, e]; rfl)
          have := dig_head (c := c) (l := r) (by rw [← hs]; exact f1) hc
          rw [← hs, f3] at this
          have hlt : ¬ 10 ≤ r.length := by
            intro h10
            have : 10 ^ 10 ≤ 10 ^ r.length := Nat.pow_le_pow_right (by decide) h10
            omega
          simp only [List.length_cons]; omega
        · have : u = 0 := by omega
          subst this
          have : s = [48] := by rw [← h2, Lib.decDigits, dif_pos (by decide)]; rfl
          rw [hs] at this
          rw [this]; simp
    rw [hz, decide_eq_true hl1, decide_eq_true hl10]
    rfl
end Go.Proofs.YtcbmdghnlbieeaaGreatDoor
