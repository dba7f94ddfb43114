/-
  Plain laws of Add: its three answers at a rising list; the order of adding does not matter.
-/
import Derived.Test.YtmapjaihkmjmmaaDoorPlainB
namespace Go.Proofs.YtmapjaihkmjmmaaDoor
open Go.RowKit

theorem digit_inj {n m : Nat} (hn : n < 10) (hm : m < 10) (h : (48 : UInt8) + UInt8.ofNat n = 48 + UInt8.ofNat m) : n = m := by
  rw [digit_eq, digit_eq] at h
  have := congrArg UInt8.toNat h
  simp at this
  omega

theorem refDigits_inj : ∀ (w n m : Nat) (s t : Bytes), n < 10 ^ w → m < 10 ^ w → refDigits w n s = refDigits w m t → n = m ∧ s = t
  | 0, n, m, s, t, hn, hm, h => by
    simp at hn hm
    exact ⟨by omega, by simpa [refDigits] using h⟩
  | w + 1, n, m, s, t, hn, hm, h => by
    rw [Nat.pow_succ] at hn hm
    rw [refDigits, refDigits] at h
    obtain ⟨h1, h2⟩ := refDigits_inj w (n / 10) (m / 10) _ _ (by omega) (by omega) h
    obtain ⟨h3, h4⟩ := List.cons.inj h2
    have := digit_inj (by omega) (by omega) h3
    exact ⟨by omega, h4⟩

theorem recValid_ok {r : Rec} (h : recValid r = 0) : 1 ≤ r.s ∧ r.s ≤ 255 ∧ r.d.length = 32 := by
  unfold recValid at h
  split at h
  · omega
  · split at h
    · omega
    · omega

theorem recKey_inj {x r : Rec} (hx : recValid x = 0) (hr : recValid r = 0) (wx : x.Wf) (wr : r.Wf) (h : recKey x = recKey r) : x.a = r.a ∧ x.s = r.s := by
  obtain ⟨x1, x2, _⟩ := recValid_ok hx
  obtain ⟨r1, r2, _⟩ := recValid_ok hr
  unfold recKey at h
  rw [if_pos hx, if_pos hr] at h
  obtain ⟨h1, h2⟩ := List.append_inj h (by rw [refDigits_length, refDigits_length])
  have ha := wx.1
  have hb := wr.1
  have e1 := (refDigits_inj 10 x.a r.a [] [] (by omega) (by omega) h1).1
  have e2 := (refDigits_inj 3 x.s.toNat r.s.toNat [] [] (by omega) (by omega) (List.cons.inj h2).2).1
  exact ⟨e1, by omega⟩

theorem rec_ext {x r : Rec} (h1 : x.a = r.a ∧ x.s = r.s) (h2 : x.d = r.d) : x = r := by
  cases x; cases r; simp_all

theorem rises_append {A B : List Rec} : Rises (A ++ B) ↔ Rises A ∧ Rises B ∧ ∀ a ∈ A, ∀ b ∈ B, Op.bytesLess (recKey a) (recKey b) = true := List.pairwise_append

/-- The three answers of Add at a rising list. -/
theorem recAdd_cases {A : List Rec} (h : Rises A) (r : Rec) (hv : recValid r = 0) :
    (∃ x ∈ A, recKey x = recKey r ∧ x.d = r.d ∧ recAdd A r = (A, 0)) ∨ (∃ x ∈ A, recKey x = recKey r ∧ x.d ≠ r.d ∧ recAdd A r = ([], 20)) ∨
    ((∀ x ∈ A, recKey x ≠ recKey r) ∧ ∃ A1 A2, A = A1 ++ A2 ∧ recAdd A r = (A1 ++ r :: A2, 0) ∧ Rises (A1 ++ r :: A2)) := by
  rw [recAdd, if_neg (by simpa using hv)]
  obtain ⟨h1, h2⟩ := recIndex_spec h (recKey r)
  generalize recIndex A (recKey r) = i at h1 h2
  have key : (∀ y ∈ A.drop i, Op.bytesLess (recKey r) (recKey y) = true) → ((∀ x ∈ A, recKey x ≠ recKey r) ∧ Rises (A.take i ++ r :: A.drop i)) := by
    intro hb
    have hsp : Rises (A.take i ++ A.drop i) := by rw [List.take_append_drop]; exact h
    obtain ⟨s1, s2, s3⟩ := rises_append.1 hsp
    constructor
    · intro x hx
      rw [← List.take_append_drop i A, List.mem_append] at hx
      rcases hx with hx | hx
      · exact bl_ne (h1 x hx)
      · exact (bl_ne (hb x hx)).symm
    · refine rises_append.2 ⟨s1, rises_cons.2 ⟨hb, s2⟩, fun a ha b hbm => ?_⟩
      rcases List.mem_cons.1 hbm with rfl | hbm
      · exact h1 a ha
      · exact s3 a ha b hbm
  cases hl : A[i]? with
  | none =>
    have hd : A.drop i = [] := List.drop_of_length_le (List.getElem?_eq_none_iff.1 hl)
    obtain ⟨k1, k2⟩ := key (by rw [hd]; simp)
    exact .inr (.inr ⟨k1, A.take i, A.drop i, (List.take_append_drop i A).symm, rfl, k2⟩)
  | some x =>
    obtain ⟨hi, hx⟩ := List.getElem?_eq_some_iff.1 hl
    have hd : A.drop i = x :: A.drop (i + 1) := by rw [List.drop_eq_getElem_cons hi, hx]
    have hxm : x ∈ A := by rw [← hx]; exact List.getElem_mem hi
    have hx2 := h2 x (by rw [hd]; exact List.mem_cons_self ..)
    by_cases hk : recKey x = recKey r
    · simp only [hk, ne_eq, not_true_eq_false, if_false]
      by_cases hdd : x.d = r.d
      · exact .inl ⟨x, hxm, hk, hdd, by simp [hdd]⟩
      · exact .inr (.inl ⟨x, hxm, hk, hdd, by simp [hdd]⟩)
    · have hgt : Op.bytesLess (recKey r) (recKey x) = true := by
        rcases bl_total (recKey r) (recKey x) with h | h | h
        · exact h
        · exact absurd h.symm hk
        · rw [h] at hx2; exact absurd hx2 (by simp)
      have hrest : ∀ y ∈ A.drop (i + 1), Op.bytesLess (recKey x) (recKey y) = true := by
        have : Rises (A.drop i) := h.drop (i := i)
        rw [hd] at this
        exact (rises_cons.1 this).1
      obtain ⟨k1, k2⟩ := key (by
        rw [hd]
        intro y hy
        rcases List.mem_cons.1 hy with rfl | hy
        · exact hgt
        · exact bl_trans hgt (hrest y hy))
      refine .inr (.inr ⟨k1, A.take i, A.drop i, (List.take_append_drop i A).symm, ?_, k2⟩)
      simp only [ne_eq, hk, not_false_eq_true, if_true]

/-- A holds what was added, in order. -/
structure Good (A P : List Rec) : Prop where
  rises : Rises A
  valid : ∀ x ∈ A, recValid x = 0
  wf : ∀ x ∈ A, x.Wf
  len : A.length ≤ P.length
  mem : ∀ x, x ∈ A ↔ x ∈ P

theorem Good.nil : Good [] [] := ⟨List.Pairwise.nil, by simp, by simp, Nat.le_refl _, by simp⟩

theorem Good.key {A P : List Rec} (h : Good A P) {x y : Rec} (hx : x ∈ A) (hy : y ∈ A) (hk : recKey x = recKey y) : x = y := by
  obtain ⟨i, hi, rfl⟩ := List.getElem_of_mem hx
  obtain ⟨j, hj, rfl⟩ := List.getElem_of_mem hy
  have hs := List.pairwise_iff_getElem.1 h.rises
  rcases Nat.lt_trichotomy i j with hij | hij | hij
  · exact absurd hk (bl_ne (hs i j hi hj hij))
  · subst hij; rfl
  · exact absurd hk.symm (bl_ne (hs j i hj hi hij))

theorem Good.check {A P : List Rec} (h : Good A P) : recCheck A = 0 := (recCheck_eq A).2 ⟨h.valid, h.rises⟩

theorem Good.add {A P : List Rec} (h : Good A P) {r : Rec} (wr : r.Wf) (he : (recAdd A r).2 = 0) : Good (recAdd A r).1 (P ++ [r]) ∧ recAdd (recAdd A r).1 r = ((recAdd A r).1, 0) := by
  have hv : recValid r = 0 := by
    rw [recAdd] at he
    by_cases h0 : recValid r = 0
    · exact h0
    · rw [if_pos h0] at he; exact he
  rcases recAdd_cases h.rises r hv with ⟨x, hx, hk, hd, e⟩ | ⟨x, hx, hk, hd, e⟩ | ⟨hne, A1, A2, hA, e, hr⟩
  · have hxr : x = r := rec_ext (recKey_inj (h.valid x hx) hv (h.wf x hx) wr hk) hd
    subst hxr
    rw [e]
    refine ⟨⟨h.rises, h.valid, h.wf, by have := h.len; simp; omega, fun y => ?_⟩, e⟩
    rw [h.mem y, List.mem_append, List.mem_singleton]
    constructor
    · exact .inl
    · rintro (hy | rfl)
      · exact hy
      · exact (h.mem _).1 hx
  · rw [e] at he; exact absurd he (by simp)
  · rw [e]
    subst hA
    have hmem : ∀ y, y ∈ A1 ++ r :: A2 ↔ y ∈ A1 ++ A2 ∨ y = r := by
      intro y; simp only [List.mem_append, List.mem_cons]
      constructor
      · rintro (h | h | h) <;> simp [h]
      · rintro ((h | h) | h) <;> simp [h]
    refine ⟨⟨hr, fun y hy => ?_, fun y hy => ?_, by have := h.len; simp at this ⊢; omega, fun y => ?_⟩, ?_⟩
    · rcases (hmem y).1 hy with hy | rfl
      · exact h.valid y hy
      · exact hv
    · rcases (hmem y).1 hy with hy | rfl
      · exact h.wf y hy
      · exact wr
    · rw [hmem, h.mem y, List.mem_append, List.mem_singleton]
    · rcases recAdd_cases hr r hv with ⟨x, hx, hk, hd, e⟩ | ⟨x, hx, hk, hd, e⟩ | ⟨hne', _⟩
      · exact e
      · rcases (hmem x).1 hx with hx | rfl
        · exact absurd hk (hne x hx)
        · exact absurd rfl hd
      · exact absurd rfl (hne' r ((hmem r).2 (.inr rfl)))

/-- What fits into one list can be added to any part of it. -/
theorem Good.fits {A P B Q : List Rec} (hA : Good A P) (hB : Good B Q) {r : Rec} (hr : r ∈ A) (hQ : ∀ x ∈ Q, x ∈ A) : (recAdd B r).2 = 0 := by
  rcases recAdd_cases hB.rises r (hA.valid r hr) with ⟨x, _, _, _, e⟩ | ⟨x, hx, hk, hd, e⟩ | ⟨_, _, _, _, e, _⟩
  · rw [e]
  · have := hA.key (hQ x ((hB.mem x).1 hx)) hr hk
    subst this
    exact absurd rfl hd
  · rw [e]

theorem rises_unique : ∀ {A B : List Rec}, Rises A → Rises B → (∀ x, x ∈ A ↔ x ∈ B) → A = B
  | [], [], _, _, _ => rfl
  | [], b :: B, _, _, h => absurd ((h b).2 (List.mem_cons_self ..)) (by simp)
  | a :: A, [], _, _, h => absurd ((h a).1 (List.mem_cons_self ..)) (by simp)
  | a :: A, b :: B, hA, hB, h => by
    obtain ⟨a1, a2⟩ := rises_cons.1 hA
    obtain ⟨b1, b2⟩ := rises_cons.1 hB
    have hab : a = b := by
      rcases List.mem_cons.1 ((h a).1 (List.mem_cons_self ..)) with e | ha
      · exact e
      · rcases List.mem_cons.1 ((h b).2 (List.mem_cons_self ..)) with e | hb
        · exact e.symm
        · have := bl_trans (a1 b hb) (b1 a ha)
          rw [bl_irrefl] at this
          exact absurd this (by simp)
    subst hab
    have hn : ∀ {C : List Rec}, (∀ r ∈ C, Op.bytesLess (recKey a) (recKey r) = true) → a ∉ C := fun hC hm => by
      have := hC a hm
      rw [bl_irrefl] at this
      exact absurd this (by simp)
    rw [rises_unique a2 b2 fun x => ⟨fun hx => ?_, fun hx => ?_⟩]
    · rcases List.mem_cons.1 ((h x).1 (List.mem_cons_of_mem _ hx)) with rfl | hx'
      · exact absurd hx (hn a1)
      · exact hx'
    · rcases List.mem_cons.1 ((h x).2 (List.mem_cons_of_mem _ hx)) with rfl | hx'
      · exact absurd hx (hn b1)
      · exact hx'
end Go.Proofs.YtmapjaihkmjmmaaDoor
