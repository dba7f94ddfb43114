/-
  Plain laws of byte strings in order, and of lists that rise by a key. No program.
-/
import Derived.Test.YtcbmdghnlbieeaaGreatDoorBase
namespace Go.Proofs.YtcbmdghnlbieeaaGreatDoor

theorem bl_irrefl : ∀ a : Bytes, Op.bytesLess a a = false
  | [] => rfl
  | x :: a => by rw [Op.bytesLess, bl_irrefl a]; simp

theorem bl_trans : ∀ {a b c : Bytes}, Op.bytesLess a b = true → Op.bytesLess b c = true → Op.bytesLess a c = true
  | _, [], _, h, _ => by simp [Op.bytesLess] at h
  | _, _ :: _, [], _, h => by simp [Op.bytesLess] at h
  | [], _ :: _, _ :: _, _, _ => rfl
  | x :: a, y :: b, z :: c, h, k => by
    simp only [Op.bytesLess, Bool.or_eq_true, Bool.and_eq_true, decide_eq_true_eq, beq_iff_eq] at h k ⊢
    rcases h with h | ⟨rfl, h⟩ <;> rcases k with k | ⟨rfl, k⟩
    · exact .inl (UInt8.lt_trans h k)
    · exact .inl h
    · exact .inl k
    · exact .inr ⟨rfl, bl_trans h k⟩

theorem bl_total : ∀ (a b : Bytes), Op.bytesLess a b = true ∨ a = b ∨ Op.bytesLess b a = true
  | [], [] => .inr (.inl rfl)
  | [], _ :: _ => .inl rfl
  | _ :: _, [] => .inr (.inr rfl)
  | x :: a, y :: b => by
    simp only [Op.bytesLess, Bool.or_eq_true, Bool.and_eq_true, decide_eq_true_eq, beq_iff_eq, List.cons.injEq]
    by_cases h : x = y
    · subst h
      rcases bl_total a b with h | h | h
      · exact .inl (.inr ⟨rfl, h⟩)
      · exact .inr (.inl ⟨rfl, h⟩)
      · exact .inr (.inr (.inr ⟨rfl, h⟩))
    · rcases UInt8.lt_or_lt_of_ne h with h | h
      · exact .inl (.inl h)
      · exact .inr (.inr (.inl h))

theorem bl_asymm {a b : Bytes} (h : Op.bytesLess a b = true) : Op.bytesLess b a = false := by
  cases k : Op.bytesLess b a
  · rfl
  · have := bl_trans h k; rw [bl_irrefl] at this; exact absurd this (by simp)
theorem bl_ne {a b : Bytes} (h : Op.bytesLess a b = true) : a ≠ b := by
  rintro rfl; rw [bl_irrefl] at h; exact absurd h (by simp)

section
variable {α : Type} {key : α → Bytes}

/-- Keys rise. -/
def Srt (key : α → Bytes) (l : List α) : Prop := l.Pairwise fun a b => Op.bytesLess (key a) (key b) = true
theorem srt_nil : Srt key ([] : List α) := List.Pairwise.nil
theorem srt_cons {x : α} {l : List α} : Srt key (x :: l) ↔ (∀ r ∈ l, Op.bytesLess (key x) (key r) = true) ∧ Srt key l := List.pairwise_cons
theorem srt_append {A B : List α} : Srt key (A ++ B) ↔ Srt key A ∧ Srt key B ∧ ∀ a ∈ A, ∀ b ∈ B, Op.bytesLess (key a) (key b) = true := List.pairwise_append
theorem Srt.filter {l : List α} (h : Srt key l) (p : α → Bool) : Srt key (l.filter p) := List.Pairwise.filter p h
theorem Srt.inj {l : List α} (h : Srt key l) {x y : α} (hx : x ∈ l) (hy : y ∈ l) (hk : key x = key y) : x = y := by
  obtain ⟨i, hi, rfl⟩ := List.getElem_of_mem hx
  obtain ⟨j, hj, rfl⟩ := List.getElem_of_mem hy
  have hs := List.pairwise_iff_getElem.1 h
  rcases Nat.lt_trichotomy i j with hij | hij | hij
  · exact absurd hk (bl_ne (hs i j hi hj hij))
  · subst hij; rfl
  · exact absurd hk.symm (bl_ne (hs j i hj hi hij))
theorem srt_unique : ∀ {A B : List α}, Srt key A → Srt key B → (∀ x, x ∈ A ↔ x ∈ B) → A = B
  | [], [], _, _, _ => rfl
  | [], b :: B, _, _, h => absurd ((h b).2 (List.mem_cons_self ..)) (by simp)
  | a :: A, [], _, _, h => absurd ((h a).1 (List.mem_cons_self ..)) (by simp)
  | a :: A, b :: B, hA, hB, h => by
    obtain ⟨a1, a2⟩ := srt_cons.1 hA
    obtain ⟨b1, b2⟩ := srt_cons.1 hB
    have hab : a = b := by
      rcases List.mem_cons.1 ((h a).1 (List.mem_cons_self ..)) with e | ha
      · exact e
      · rcases List.mem_cons.1 ((h b).2 (List.mem_cons_self ..)) with e | hb
        · exact e.symm
        · have := bl_trans (a1 b hb) (b1 a ha)
          rw [bl_irrefl] at this
          exact absurd this (by simp)
    subst hab
    have hn : ∀ {C : List α}, (∀ r ∈ C, Op.bytesLess (key a) (key r) = true) → a ∉ C := fun hC hm => by
      have := hC a hm
      rw [bl_irrefl] at this
      exact absurd this (by simp)
    rw [srt_unique a2 b2 fun x => ⟨fun hx => ?_, fun hx => ?_⟩]
    · rcases List.mem_cons.1 ((h x).1 (List.mem_cons_of_mem _ hx)) with rfl | hx'
      · exact absurd hx (hn a1)
      · exact hx'
    · rcases List.mem_cons.1 ((h x).2 (List.mem_cons_of_mem _ hx)) with rfl | hx'
      · exact absurd hx (hn b1)
      · exact hx'
end
end Go.Proofs.YtcbmdghnlbieeaaGreatDoor
