/-
  Plain laws of attribute sets: set, get, remove, merge. No program.
-/
import Derived.Test.YtnnhgmpdfjljbaaDoorAtQ
namespace Go.Proofs.YtnnhgmpdfjljbaaDoor

theorem setA_ok {l A : List At} {x : At} (h : setA l x = (A, 0)) : Okl l ∧ atErr x = 0 ∧ A = putA l x ∧ (putA l x).length ≤ 16 := by
  unfold setA at h
  by_cases h0 : chk l = 0
  · rw [if_neg (by omega)] at h
    by_cases h1 : atErr x = 0
    · rw [if_neg (by omega)] at h
      by_cases h2 : 16 < (putA l x).length
      · rw [if_pos h2] at h; simp at h
      · rw [if_neg h2] at h
        exact ⟨(chk_eq l).1 h0, h1, (Prod.mk.inj h).1.symm, by omega⟩
    · rw [if_pos h1] at h
      exact absurd (Prod.mk.inj h).2 h1
  · rw [if_pos h0] at h
    exact absurd (Prod.mk.inj h).2 h0
theorem setA_err {l A : List At} {x : At} {n : Int} (h : setA l x = (A, n)) (hn : n ≠ 0) : A = [] := by
  unfold setA at h
  by_cases h0 : chk l = 0
  · rw [if_neg (by omega)] at h
    by_cases h1 : atErr x = 0
    · rw [if_neg (by omega)] at h
      by_cases h2 : 16 < (putA l x).length
      · rw [if_pos h2] at h; exact (Prod.mk.inj h).1.symm
      · rw [if_neg h2] at h; exact absurd (Prod.mk.inj h).2.symm hn
    · rw [if_pos h1] at h; exact (Prod.mk.inj h).1.symm
  · rw [if_pos h0] at h; exact (Prod.mk.inj h).1.symm
theorem setA_eq {l : List At} {x : At} (h0 : Okl l) (hx : atErr x = 0) : setA l x = if 16 < (putA l x).length then ([], 6) else (putA l x, 0) := by
  rw [setA, if_neg (by have := (chk_eq l).2 h0; omega), if_neg (by omega)]

theorem put_okl {l : List At} {x : At} (h : Okl l) (hx : atErr x = 0) (hl : (putA l x).length ≤ 16) : Okl (putA l x) := by
  refine ⟨hl, fun z hz => ?_, putA_srt h.srt x⟩
  rcases (putA_mem h.srt x z).1 hz with rfl | ⟨hz, _⟩
  · exact hx
  · exact h.all z hz

theorem srt_key {l : List At} (h : Srt At.k l) {x y : At} (hx : x ∈ l) (hy : y ∈ l) (e : x.k = y.k) : x = y := by
  induction l with
  | nil => cases hx
  | cons z l ih =>
    obtain ⟨h1, h2⟩ := srt_cons.1 h
    rcases List.mem_cons.1 hx with hx | hx <;> rcases List.mem_cons.1 hy with hy | hy
    · rw [hx, hy]
    · exact absurd (by rw [← hx]; exact e) (bl_ne (h1 y hy))
    · exact absurd (by rw [← hy]; exact e.symm) (bl_ne (h1 x hx))
    · exact ih h2 hx hy
theorem getA_mem {l : List At} (h : Srt At.k l) {x : At} (hx : x ∈ l) : getA l x.k = (x.v, true) := by
  unfold getA
  cases hf : l.find? (fun y => y.k == x.k) with
  | none =>
    have := List.find?_eq_none.1 hf x hx
    simp at this
  | some y =>
    have h1 := List.find?_some hf
    have h2 := List.mem_of_find?_eq_some hf
    have := srt_key h h2 hx (by simpa using h1)
    rw [this]
theorem getA_no {l : List At} {k : Bytes} (h : ∀ x ∈ l, x.k ≠ k) : getA l k = ([], false) := by
  unfold getA
  rw [List.find?_eq_none.2 (fun x hx => by simpa using h x hx)]
theorem get_put {l : List At} (h : Srt At.k l) (x : At) : getA (putA l x) x.k = (x.v, true) :=
  getA_mem (putA_srt h x) ((putA_mem h x x).2 (.inl rfl))
theorem get_put_ne {l : List At} (h : Srt At.k l) (x : At) {k : Bytes} (hk : k ≠ x.k) : getA (putA l x) k = getA l k := by
  by_cases he : ∃ y ∈ l, y.k = k
  · obtain ⟨y, hy, rfl⟩ := he
    rw [getA_mem h hy, getA_mem (putA_srt h x) ((putA_mem h x y).2 (.inr ⟨hy, hk⟩))]
  · rw [getA_no (l := l) (fun y hy e => he ⟨y, hy, e⟩), getA_no fun y hy e => ?_]
    rcases (putA_mem h x y).1 hy with rfl | ⟨hy, _⟩
    · exact hk e.symm
    · exact he ⟨y, hy, e⟩
theorem remA_mem (l : List At) (k : Bytes) (z : At) : z ∈ remA l k ↔ z ∈ l ∧ z.k ≠ k := by
  simp [remA, List.mem_filter]
theorem remA_srt {l : List At} (h : Srt At.k l) (k : Bytes) : Srt At.k (remA l k) := h.filter _
theorem rem_put {l : List At} (h : Srt At.k l) (x : At) : remA (putA l x) x.k = remA l x.k := by
  refine at_ext (remA_srt (putA_srt h x) _) (remA_srt h _) fun z => ?_
  rw [remA_mem, remA_mem, putA_mem h]
  constructor
  · rintro ⟨rfl | ⟨h1, h2⟩, h3⟩
    · exact absurd rfl h3
    · exact ⟨h1, h3⟩
  · rintro ⟨h1, h2⟩; exact ⟨.inr ⟨h1, h2⟩, h2⟩

/-- Set after set, of one key. -/
theorem put_put {l : List At} (h : Srt At.k l) {x y : At} (e : x.k = y.k) : putA (putA l x) y = putA l y := by
  refine at_ext (putA_srt (putA_srt h x) y) (putA_srt h y) fun z => ?_
  rw [putA_mem (putA_srt h x), putA_mem h, putA_mem h]
  constructor
  · rintro (rfl | ⟨rfl | ⟨h1, h2⟩, h3⟩)
    · exact .inl rfl
    · exact absurd e h3
    · exact .inr ⟨h1, h3⟩
  · rintro (rfl | ⟨h1, h2⟩)
    · exact .inl rfl
    · exact .inr ⟨.inr ⟨h1, by rw [e]; exact h2⟩, h2⟩
theorem put_comm {l : List At} (h : Srt At.k l) {x y : At} (e : x.k ≠ y.k) : putA (putA l x) y = putA (putA l y) x := by
  refine at_ext (putA_srt (putA_srt h x) y) (putA_srt (putA_srt h y) x) fun z => ?_
  rw [putA_mem (putA_srt h x), putA_mem (putA_srt h y), putA_mem h, putA_mem h]
  constructor
  · rintro (rfl | ⟨rfl | ⟨h1, h2⟩, h3⟩)
    · exact .inr ⟨.inl rfl, fun q => e q.symm⟩
    · exact .inl rfl
    · exact .inr ⟨.inr ⟨h1, h3⟩, h2⟩
  · rintro (rfl | ⟨rfl | ⟨h1, h2⟩, h3⟩)
    · exact .inr ⟨.inl rfl, e⟩
    · exact .inl rfl
    · exact .inr ⟨.inr ⟨h1, h3⟩, h2⟩
theorem put_grows {l : List At} (h : Srt At.k l) (x y : At) : (putA l y).length ≤ (putA (putA l x) y).length := by
  refine len_le (putA_srt h y) fun z hz => ?_
  rcases (putA_mem h y z).1 hz with rfl | ⟨hz, hn⟩
  · exact ⟨z, (putA_mem (putA_srt h x) z z).2 (.inl rfl), rfl⟩
  · by_cases e : z.k = x.k
    · exact ⟨x, (putA_mem (putA_srt h x) y x).2 (.inr ⟨(putA_mem h x x).2 (.inl rfl), by rw [← e]; exact hn⟩), e.symm⟩
    · exact ⟨z, (putA_mem (putA_srt h x) y z).2 (.inr ⟨(putA_mem h x z).2 (.inr ⟨hz, e⟩), hn⟩), rfl⟩

/-- What the order law asks, of one key. -/
theorem order_same {l A1 A3 : List At} {x y : At} (h1 : setA l x = (A1, 0)) (h3 : setA l y = (A3, 0)) (e : x.k = y.k) : setA A1 y = (A3, 0) := by
  obtain ⟨o1, x1, rfl, n1⟩ := setA_ok h1
  obtain ⟨_, y1, rfl, n3⟩ := setA_ok h3
  rw [setA_eq (put_okl o1 x1 n1) y1, put_put o1.srt e, if_neg (by omega)]
/-- .. of two keys. -/
theorem order_two {l A1 A3 : List At} {x y : At} (h1 : setA l x = (A1, 0)) (h3 : setA l y = (A3, 0)) (e : x.k ≠ y.k) : setA A1 y = setA A3 x := by
  obtain ⟨o1, x1, rfl, n1⟩ := setA_ok h1
  obtain ⟨_, y1, rfl, n3⟩ := setA_ok h3
  rw [setA_eq (put_okl o1 x1 n1) y1, setA_eq (put_okl o1 y1 n3) x1, put_comm o1.srt e]
/-- .. where the other set fails. -/
theorem order_err {l A1 : List At} {x y : At} (h1 : setA l x = (A1, 0)) (h3 : (setA l y).2 ≠ 0) : (setA A1 y).2 ≠ 0 := by
  obtain ⟨o1, x1, rfl, n1⟩ := setA_ok h1
  by_cases y1 : atErr y = 0
  · rw [setA_eq o1 y1] at h3
    rw [setA_eq (put_okl o1 x1 n1) y1]
    have := put_grows o1.srt x y
    by_cases h : 16 < (putA l y).length
    · rw [if_pos (by omega)]; simp
    · rw [if_neg h] at h3; exact absurd rfl h3
  · have hc := (chk_eq _).2 (put_okl o1 x1 n1)
    rw [setA, if_neg (by omega), if_pos y1]
    exact y1
/-- What the law of get after set asks. -/
theorem gas {l A : List At} {x : At} (h : setA l x = (A, 0)) : chk A = 0 ∧ getA A x.k = (x.v, true) ∧ remA A x.k = remA l x.k ∧ (∀ k, k ≠ x.k → getA A k = getA l k) ∧ A.length ≤ 16 ∧ l.length ≤ 16 := by
  obtain ⟨o, x1, rfl, n⟩ := setA_ok h
  exact ⟨(chk_eq _).2 (put_okl o x1 n), get_put o.srt x, rem_put o.srt x, fun k hk => get_put_ne o.srt x hk, n, o.len⟩
end Go.Proofs.YtnnhgmpdfjljbaaDoor
