/-
  Contracts of Go's library in this work's own words: strings.Split, Join, ContainsFunc; slices.Equal, IndexFunc, ContainsFunc, CompareFunc at strings.
-/
import Derived.Test.YtcbmdghnlbieeaaGreatDoorEnH
import Derived.Test.YtcbmdghnlbieeaaGreatDoorShP
import Derived.Test.YtcbmdghnlbieeaaGreatDoorShQ
namespace Go.Proofs.YtcbmdghnlbieeaaGreatDoor
open Go.RowKit

theorem below_drewN (w : World) (q : Nat) : Below w.heap.size w (w.drewN q) := ⟨rfl, rfl, rfl, Nat.le_refl _, fun _ _ => rfl⟩

/-- What the immutable part holds of the library's variables. -/
structure Glob (I : IH) : Prop where
  pow : I 1 = some (Lib.pow10Tab.map fun z => Value.int .u64 z).toArray
  max : ∃ c m, I 0 = some c ∧ c[0]? = some (.int .i64 m)
  syn : ∃ tp p, I 2 = some #[.iface tp p]
  rng : ∃ tp p, I 3 = some #[.iface tp p]
theorem Glob.mono {I I' : IH} (h : Glob I) (k : ∀ b c, I b = some c → I' b = some c) : Glob I' :=
  ⟨k _ _ h.pow, (let ⟨c, m, h1, h2⟩ := h.max; ⟨c, m, k _ _ h1, h2⟩), (let ⟨tp, p, h1⟩ := h.syn; ⟨tp, p, k _ _ h1⟩), (let ⟨tp, p, h1⟩ := h.rng; ⟨tp, p, k _ _ h1⟩)⟩
theorem Glob.maxlen {I : IH} {w : World} (h : Glob I) (hw : Ok I w) : ∃ m, w.cell? ⟨0, 0, none⟩ = some (.int .i64 m) := by
  obtain ⟨c, m, h1, h2⟩ := h.max
  exact ⟨m, by rw [hw.cell h1]; exact h2⟩

theorem map_data (l : List ByteArray) : (l.map (·.data.toList)).map (fun b => Value.string ⟨b.toArray⟩) = l.map Value.string := by
  rw [List.map_map]
  apply List.map_congr_left
  intro b _
  simp

set_option maxRecDepth 100000 in
theorem lib_Split (I : IH) (hI : Glob I) (s : Bytes) (hs : s.length ≤ 4294967280) (w : World) (hw : Ok I w) :
    Calls Tryz.prog 101 #[S s, S [47]] w (RetS tStr I w (elsGo [] s)) := by
  obtain ⟨m, hm⟩ := hI.maxlen hw
  have hsz : (⟨s.toArray⟩ : ByteArray).size = s.length := by simp [ByteArray.size]
  refine (Tryz.strings_Split ⟨s.toArray⟩ ⟨[47].toArray⟩ m w (by omega) hm (by decide)).mono fun e w' ⟨he, hq⟩ => ?_
  have hspl := split_els s
  have hdat := Lib.splitB_data ⟨[47].toArray⟩ 0 (Lib.countB ⟨s.toArray⟩ ⟨[47].toArray⟩) ⟨s.toArray⟩
  have hall : (Lib.splitB ⟨[47].toArray⟩ 0 (Lib.countB ⟨s.toArray⟩ ⟨[47].toArray⟩) ⟨s.toArray⟩).map (·.data.toList) = elsGo [] s := by rw [hdat, ← hspl]; rfl
  have hlen : Lib.countB ⟨s.toArray⟩ ⟨[47].toArray⟩ + 1 = (elsGo [] s).length := by
    rw [← hall, List.length_map]
    exact (Lib.splitB_all ⟨[47].toArray⟩ (by decide) 0 _ ⟨s.toArray⟩ rfl).symm
  have hcells : ((Lib.splitB ⟨[47].toArray⟩ 0 (Lib.countB ⟨s.toArray⟩ ⟨[47].toArray⟩) ⟨s.toArray⟩).map Value.string) = (elsGo [] s).map fun b => S b := by
    rw [← hall, map_data]
  have hcl : Lib.countB ⟨s.toArray⟩ ⟨[47].toArray⟩ ≤ s.length := by
    have := Lib.countB_le ⟨[47].toArray⟩ (by decide) _ ⟨s.toArray⟩ (Nat.le_refl _)
    rwa [hsz] at this
  rw [hcells] at hq
  rw [hlen] at he
  have hmax : (elsGo [] s).length ≤ 9223372036854775807 := by omega
  generalize elsGo [] s = l at *
  subst hq
  have hb := heap_alloc_new w (.cells (l.map fun b => S b).toArray 9)
  refine ⟨_, I.add w.heap.size (l.map fun b => S b).toArray, he, (Below.refl _ _).alloc (Nat.le_refl _) _, Ext.add (Nat.le_refl _) _ _, (hw.alloc _).add hb, _, l.length, rfl, Nat.le_refl _, hmax, fun _ => ⟨w.heap.size, 0, (l.map fun b => S b).toArray, rfl, by simp [IH.add], fun i hi => ⟨[S l[i]], rfl, fun j u hu => ?_⟩⟩⟩
  have hj : j = 0 := by have := (List.getElem?_eq_some_iff.1 hu).1; simp at this; exact this
  subst hj
  obtain rfl : S l[i] = u := by simpa using hu
  show ((l.map fun b => S b).toArray)[0 + (i * 1 + 0)]? = _
  rw [show 0 + (i * 1 + 0) = i by omega, List.getElem?_toArray, List.getElem?_map, List.getElem?_eq_getElem hi]
  rfl

set_option maxRecDepth 100000 in
theorem lib_ContainsFunc (g : Nat) (p : Nat → Bool) (s : Bytes) (w : World) (eg : ∀ args w, (callFunc g args).run Tryz.prog w = .ok (.enter g args) w) (hp : ∀ (x : Nat) (W : World), Calls Tryz.prog g #[.int .i32 (x : Int)] W fun e w' => e = .returned (.bool (p x)) ∧ w' = W) :
    Calls Tryz.prog 103 #[S s, .func (.func g) #[] #[]] w fun e w' => e = .returned (.bool (decide (0 ≤ Lib.idxFunc p true ⟨s.toArray⟩))) ∧ Below w.heap.size w w' :=
  Tryz.strings_ContainsFunc g #[] eg p ⟨s.toArray⟩ w fun W x _ => by
    have := hp x W
    exact this.mono fun e w' ⟨h1, h2⟩ => ⟨h1, 0, h2⟩

set_option maxRecDepth 100000 in
theorem lib_Join (I : IH) (v : Value) (l : List Bytes) (hv : RdS tStr I v l) (hj : (joinP l).length ≤ 4294967296) (hn : l.length ≤ 4294967296) (w : World) (hw : Ok I w) :
    Calls Tryz.prog 78 #[v, S [47]] w fun e w' => e = .returned (S (joinP l)) ∧ Below w.heap.size w w' := by
  obtain ⟨ao, cap, rfl, hcap, hcm, hh⟩ := id hv
  by_cases h0 : l = []
  · subst h0
    exact (Tryz.strings_Join_none ao cap ⟨[47].toArray⟩ w).mono fun e w' ⟨h1, h2⟩ => ⟨h1, by rw [h2]; exact Below.refl _ _⟩
  · have hpos : 0 < l.length := List.length_pos_iff.2 h0
    obtain ⟨b, off, arr, rfl, hI, hl⟩ := hh hpos
    have hx : (l.map fun s => (⟨s.toArray⟩ : ByteArray)).map (·.data.toList) = l := by
      rw [List.map_map]
      conv => rhs; rw [← List.map_id l]
      apply List.map_congr_left
      intro b _
      simp
    have hjl : Lib.join ((l.map fun s => (⟨s.toArray⟩ : ByteArray)).map (·.data.toList)) (⟨[47].toArray⟩ : ByteArray).data.toList = joinP l := by rw [hx]; exact join_els l
    have h := Tryz.strings_Join b off cap (l.map fun s => ⟨s.toArray⟩) ⟨[47].toArray⟩ w (fun j x hx => ?_) (hw.lt hI) (by rw [List.length_map]; omega) (by rw [List.length_map]; exact hcap) (by rw [hjl]; omega)
    · rw [hjl, List.length_map] at h
      exact h
    · rw [List.getElem?_map] at hx
      cases hlj : l[j]? with
      | none => rw [hlj] at hx; simp at hx
      | some s =>
        rw [hlj] at hx
        simp at hx
        subst hx
        obtain ⟨hjl, hlj⟩ := List.getElem?_eq_some_iff.1 hlj
        obtain ⟨cs, h1, h2⟩ := hl j hjl
        have hcs : cs = [S l[j]] := h1
        have := h2 0 (S l[j]) (by rw [hcs]; rfl)
        rw [hw.cell hI, ← hlj]
        simpa [tStr, Ty.flat] using this

set_option maxRecDepth 100000 in
theorem lib_Equal (I : IH) (v1 v2 : Value) (l m : List Bytes) (hv1 : RdS tStr I v1 l) (hv2 : RdS tStr I v2 m) (w : World) (hw : Ok I w) :
    Calls Tryz.prog 54 #[v1, v2] w fun e w' => e = .returned (.bool (decide (l = m))) ∧ Below w.heap.size w w' := by
  have hb1 := hv1.len_le
  have hb2 := hv2.len_le
  obtain ⟨ao, cap, rfl, hcap, hcm, hh⟩ := id hv1
  obtain ⟨ao2, cap2, rfl, hcap2, hcm2, hh2⟩ := id hv2
  by_cases hlm : l.length = m.length
  case neg =>
    refine (Tryz.slices_Equal_string_lens ao ao2 l.length cap m.length cap2 w hlm).mono fun e w' ⟨h1, h2⟩ => ⟨?_, by rw [h2]; exact Below.refl _ _⟩
    rw [h1, decide_eq_false]
    intro e; exact hlm (by rw [e])
  by_cases h0 : l = []
  · subst h0
    have hm : m = [] := List.eq_nil_of_length_eq_zero (by rw [← hlm]; rfl)
    subst hm
    exact (Tryz.slices_Equal_string_empty ao ao2 cap 0 cap2 w (by decide)).mono fun e w' ⟨h1, h2⟩ => ⟨h1, by rw [h2]; exact Below.refl _ _⟩
  · have hpos : 0 < l.length := List.length_pos_iff.2 h0
    obtain ⟨b, off, arr, rfl, hI, hl⟩ := hh hpos
    obtain ⟨b2, off2, arr2, rfl, hI2, hl2⟩ := hh2 (by omega)
    have cellsOf : ∀ (l : List Bytes) (b off : Nat) (arr : Array Value), I b = some arr → Lies tStr I arr off l → ∀ j, j < (l.map fun s => (⟨s.toArray⟩ : ByteArray)).length → w.cell? ⟨b, off + j, none⟩ = some (.string ((l.map fun s => (⟨s.toArray⟩ : ByteArray)).getD j ByteArray.empty)) := by
      intro l b off arr hI hl j hj
      rw [List.length_map] at hj
      obtain ⟨cs, h1, h2⟩ := hl j hj
      have hcs : cs = [S l[j]] := h1
      have := h2 0 (S l[j]) (by rw [hcs]; rfl)
      rw [hw.cell hI, List.getD_eq_getElem?_getD, List.getElem?_map, List.getElem?_eq_getElem hj]
      simpa [tStr, Ty.flat] using this
    have h := Tryz.slices_Equal_string b off l.length cap b2 off2 m.length cap2 (l.map fun s => ⟨s.toArray⟩) (m.map fun s => ⟨s.toArray⟩) w (by rw [List.length_map]; exact Nat.le_refl _) (by rw [List.length_map]; exact Nat.le_refl _) hb1 hb2 (cellsOf l b off arr hI hl) (cellsOf m b2 off2 arr2 hI2 hl2)
    refine h.mono fun e w' ⟨h1, q, h2⟩ => ⟨?_, by rw [h2]; exact below_drewN _ _⟩
    rw [h1]
    congr 2
    rw [decide_eq_decide, List.take_of_length_le (by simp), List.take_of_length_le (by simp)]
    constructor
    · intro e
      have := congrArg (List.map fun b : ByteArray => b.data.toList) e
      rw [List.map_map, List.map_map] at this
      have hid : ((fun b : ByteArray => b.data.toList) ∘ fun s : Bytes => (⟨s.toArray⟩ : ByteArray)) = id := by funext s; simp
      rw [hid, List.map_id, List.map_id] at this
      exact this
    · intro e; rw [e]
end Go.Proofs.YtcbmdghnlbieeaaGreatDoor
