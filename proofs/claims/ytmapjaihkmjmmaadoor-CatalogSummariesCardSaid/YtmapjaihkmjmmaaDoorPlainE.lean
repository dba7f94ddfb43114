/-
  Plain laws of two archives in one list.
-/
import Derived.Test.YtmapjaihkmjmmaaDoorPlainD
namespace Go.Proofs.YtmapjaihkmjmmaaDoor
open Go.RowKit

abbrev digest0 : Bytes := [48, 49, 50, 51, 52, 53, 54, 55, 56, 57, 97, 98, 99, 100, 101, 102, 48, 49, 50, 51, 52, 53, 54, 55, 56, 57, 97, 98, 99, 100, 101, 102]
theorem recI_valid (id : Nat) (s : Int) (h1 : 1 ≤ s) (h2 : s ≤ 255) : recValid ⟨id, s, digest0⟩ = 0 := by
  unfold recValid
  rw [if_neg (by simp; omega), if_neg (by simp)]
theorem recI_wf (id : Nat) (s : Int) (hid : id < 4294967296) (h1 : 1 ≤ s) (h2 : s ≤ 255) : Rec.Wf ⟨id, s, digest0⟩ := ⟨hid, by show _ ≤ s; omega, by show s ≤ _; omega, by simp⟩

/-- A list with further records of an archive. -/
structure Dj (l : List Rec) (id : Nat) (A : List Rec) : Prop where
  rises : Rises A
  valid : ∀ x ∈ A, recValid x = 0
  wf : ∀ x ∈ A, x.Wf
  rest : A.filter (fun x => decide (x.a ≠ id)) = l
  own : ∀ x ∈ A, x.a = id → x.d = digest0

theorem Dj.start {l : List Rec} {id : Nat} (hr : Rises l) (hv : ∀ x ∈ l, recValid x = 0) (hw : ∀ x ∈ l, x.Wf) (hn : ∀ x ∈ l, x.a ≠ id) : Dj l id l :=
  ⟨hr, hv, hw, filter_all fun x hx => by simpa using hn x hx, fun x hx h => absurd h (hn x hx)⟩

theorem Dj.add {l A : List Rec} {id : Nat} (h : Dj l id A) {s : Int} (hid : id < 4294967296) (h1 : 1 ≤ s) (h2 : s ≤ 255) : ∃ A', recAdd A ⟨id, s, digest0⟩ = (A', 0) ∧ Dj l id A' ∧ A'.length ≤ A.length + 1 := by
  have hv := recI_valid id s h1 h2
  have hw := recI_wf id s hid h1 h2
  rcases recAdd_cases h.rises ⟨id, s, digest0⟩ hv with ⟨x, hx, hk, hd, e⟩ | ⟨x, hx, hk, hd, e⟩ | ⟨hne, A1, A2, rfl, e, hr⟩
  · exact ⟨A, e, h, by omega⟩
  · have hi := recKey_inj (h.valid x hx) hv (h.wf x hx) hw hk
    exact absurd (h.own x hx hi.1) hd
  · refine ⟨_, e, ⟨hr, fun y hy => ?_, fun y hy => ?_, ?_, fun y hy ha => ?_⟩, by simp; omega⟩
    · rcases List.mem_append.1 hy with hy | hy
      · exact h.valid y (List.mem_append_left _ hy)
      · rcases List.mem_cons.1 hy with rfl | hy
        · exact hv
        · exact h.valid y (List.mem_append_right _ hy)
    · rcases List.mem_append.1 hy with hy | hy
      · exact h.wf y (List.mem_append_left _ hy)
      · rcases List.mem_cons.1 hy with rfl | hy
        · exact hw
        · exact h.wf y (List.mem_append_right _ hy)
    · rw [← h.rest, List.filter_append, List.filter_append, List.filter_cons]
      simp
    · rcases List.mem_append.1 hy with hy | hy
      · exact h.own y (List.mem_append_left _ hy) ha
      · rcases List.mem_cons.1 hy with rfl | hy
        · rfl
        · exact h.own y (List.mem_append_right _ hy) ha

section
variable {l A : List Rec} {id : Nat}
theorem Dj.below (h : Dj l id A) (hid : id < 4294967295) : recIn A [] (refDigits 10 id []) = recIn l [] (refDigits 10 id []) := by
  unfold recIn
  rw [← h.rest, List.filter_filter]
  refine List.filter_congr fun x hx => ?_
  unfold inRange
  rw [bl_nil, key_lt_head (h.valid x hx) (h.wf x hx) id (by omega), decide_eq_false (head_ne_nil id)]
  by_cases e : x.a < id
  · simp [e]; omega
  · simp [e]
theorem Dj.sums (h : Dj l id A) (hid : id < 4294967295) :
    (recIn A (refDigits 10 id []) (refDigits 10 (id + 1) [])).length + l.length = A.length ∧ (recIn A [] (refDigits 10 id [])).length + (recIn A (refDigits 10 (id + 1) []) []).length = l.length := by
  have key : ∀ B : List Rec, (∀ x ∈ B, recValid x = 0) → (∀ x ∈ B, x.Wf) →
      (recIn B (refDigits 10 id []) (refDigits 10 (id + 1) [])).length + (B.filter (fun x => decide (x.a ≠ id))).length = B.length ∧ (recIn B [] (refDigits 10 id [])).length + (recIn B (refDigits 10 (id + 1) []) []).length = (B.filter (fun x => decide (x.a ≠ id))).length := by
    intro B hv hw
    unfold recIn
    induction B with
    | nil => simp
    | cons x B ih =>
      obtain ⟨i1, i2⟩ := ih (fun y hy => hv y (List.mem_cons_of_mem _ hy)) (fun y hy => hw y (List.mem_cons_of_mem _ hy))
      have k1 := key_lt_head (hv x (List.mem_cons_self ..)) (hw x (List.mem_cons_self ..)) id (by omega)
      have k2 := key_lt_head (hv x (List.mem_cons_self ..)) (hw x (List.mem_cons_self ..)) (id + 1) (by omega)
      have r1 : inRange (refDigits 10 id []) (refDigits 10 (id + 1) []) x = decide (x.a = id) := by
        unfold inRange
        rw [k1, k2, decide_eq_false (head_ne_nil _), Bool.eq_iff_iff]
        simp; omega
      have r2 : inRange [] (refDigits 10 id []) x = decide (x.a < id) := by
        unfold inRange
        rw [k1, bl_nil, decide_eq_false (head_ne_nil _)]
        simp
      have r3 : inRange (refDigits 10 (id + 1) []) [] x = decide (id < x.a) := by
        unfold inRange
        rw [k2, Bool.eq_iff_iff]
        simp; omega
      simp only [List.filter_cons, r1, r2, r3]
      rcases Nat.lt_trichotomy x.a id with e | e | e
      · have a1 : ¬ x.a = id := by omega
        have a2 : ¬ id < x.a := by omega
        simp [e, a1, a2] at i1 i2 ⊢; omega
      · simp [e] at i1 i2 ⊢; omega
      · have a1 : ¬ x.a = id := by omega
        have a2 : ¬ x.a < id := by omega
        simp [e, a1, a2] at i1 i2 ⊢; omega
  have := key A h.valid h.wf
  rw [h.rest] at this
  exact this
end

/-- The head of a key. -/
theorem key_head (id : Nat) : ∃ K : Bytes, recKey ⟨id, 1, digest0⟩ = K ∧ K.length = 14 ∧ K.take 10 = refDigits 10 id [] := by
  refine ⟨_, rfl, ?_, ?_⟩
  · rw [recKey, if_pos (recI_valid id 1 (by omega) (by omega))]
    simp [refDigits_length]
  · rw [recKey, if_pos (recI_valid id 1 (by omega) (by omega))]
    rw [List.take_append_of_le_length (by simp [refDigits_length]), List.take_of_length_le (by simp [refDigits_length])]
end Go.Proofs.YtmapjaihkmjmmaaDoor
