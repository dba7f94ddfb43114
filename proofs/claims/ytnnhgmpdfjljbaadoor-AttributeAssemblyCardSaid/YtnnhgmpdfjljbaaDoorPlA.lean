/-
  Plain laws of attribute sets: a valid list put together in a rotation of its order. No program.
-/
import Derived.Test.YtnnhgmpdfjljbaaDoorPlS
import Derived.Test.YtnnhgmpdfjljbaaDoorLwA
namespace Go.Proofs.YtnnhgmpdfjljbaaDoor

/-- What k attributes of l, from the r-th on, put into a set. -/
def RotG (l : List At) (r k : Nat) (A : List At) : Prop := Srt At.k A ∧ ∀ z, z ∈ A ↔ ∃ i, i < k ∧ l[(i + r) % l.length]? = some z
theorem RotG.nil (l : List At) (r : Nat) : RotG l r 0 [] := ⟨srt_nil, fun z => by simp⟩
theorem RotG.sub {l A : List At} {r k : Nat} (h : RotG l r k A) : ∀ z ∈ A, z ∈ l := fun z hz => by
  obtain ⟨i, _, hi⟩ := (h.2 z).1 hz
  exact List.mem_of_getElem? hi
theorem RotG.step {l A : List At} {r k : Nat} (hl : Okl l) (h : RotG l r k A) {x : At} (hx : l[(k + r) % l.length]? = some x) : setA A x = (putA A x, 0) ∧ RotG l r (k + 1) (putA A x) := by
  have hxm : x ∈ l := List.mem_of_getElem? hx
  have hA : Okl A := ⟨Nat.le_trans (len_le h.1 fun z hz => ⟨z, h.sub z hz, rfl⟩) hl.len, fun z hz => hl.all z (h.sub z hz), h.1⟩
  have hG : RotG l r (k + 1) (putA A x) := by
    refine ⟨putA_srt h.1 x, fun z => ?_⟩
    rw [putA_mem h.1, h.2]
    constructor
    · rintro (rfl | ⟨⟨i, hi, e⟩, _⟩)
      · exact ⟨k, by omega, hx⟩
      · exact ⟨i, by omega, e⟩
    · rintro ⟨i, hi, e⟩
      by_cases hk : i = k
      · subst hk
        rw [hx] at e
        exact .inl (Option.some.inj e).symm
      · by_cases hz : z = x
        · exact .inl hz
        · exact .inr ⟨⟨i, by omega, e⟩, fun e' => hz (srt_key hl.srt (List.mem_of_getElem? e) hxm e')⟩
  have hle : (putA A x).length ≤ l.length := len_le hG.1 fun z hz => ⟨z, hG.sub z hz, rfl⟩
  have := hl.len
  exact ⟨by rw [setA_eq hA (hl.all x hxm), if_neg (by omega)], hG⟩
theorem RotG.all {l A : List At} {r : Nat} (hl : Okl l) (h : RotG l r l.length A) : A = l := by
  refine at_ext h.1 hl.srt fun z => ⟨h.sub z, fun hz => ?_⟩
  obtain ⟨j, hj, rfl⟩ := List.getElem_of_mem hz
  refine (h.2 _).2 ⟨(j + l.length - r % l.length) % l.length, Nat.mod_lt _ (by omega), ?_⟩
  have h1 := Nat.div_add_mod r l.length
  have h2 := Nat.mod_lt r (show 0 < l.length by omega)
  have e : ((j + l.length - r % l.length) % l.length + r) % l.length = j := by
    rw [Nat.mod_add_mod, show j + l.length - r % l.length + r = j + l.length * (r / l.length + 1) by rw [Nat.mul_add, Nat.mul_one]; omega, Nat.add_mul_mod_self_left, Nat.mod_eq_of_lt hj]
  rw [e, List.getElem?_eq_getElem hj]
theorem rem_head {l : List At} (h : Srt At.k l) (k : Nat) (hk : k < l.length) : remA (l.drop k) l[k].k = l.drop (k + 1) := by
  have hs : Srt At.k (l.drop k) := h.sublist (List.drop_sublist k l)
  rw [List.drop_eq_getElem_cons hk] at hs ⊢
  obtain ⟨h1, _⟩ := srt_cons.1 hs
  unfold remA
  rw [List.filter_cons, if_neg (by simp), List.filter_eq_self]
  intro z hz
  have := (bl_ne (h1 z hz)).symm
  simpa using this
end Go.Proofs.YtnnhgmpdfjljbaaDoor
