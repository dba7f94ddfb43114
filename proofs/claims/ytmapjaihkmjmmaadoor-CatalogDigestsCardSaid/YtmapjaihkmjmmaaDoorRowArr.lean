/-
  Arrays of strings by value, opened.
-/
import Derived.Test.YtmapjaihkmjmmaaDoorRowBase
import Derived.Laws.IdiomArrays
namespace Go.Proofs.YtmapjaihkmjmmaaDoor
open Go.ChangeShapes Go.WideShapes Go.ChangeAt Go.RowKit

theorem okWide_arr {P : Program} {w : World} {r : Reach} {base : Nat} {t e : TypeId} {n : Nat} {v : Value} (ht : P.underlying t = some (.array n e)) (h : Value.okWide P w r base t v) : ∃ cs, v = .agg cs ∧ cs.size = P.cellsOf t := by
  simp only [Value.okWide, ht] at h
  obtain ⟨cs, h1, h2, _⟩ := h
  exact ⟨cs, h1, h2⟩

section
variable {H : Type} {P : Program} {enc : TypeId × Value → H} {w : World} {r : Reach} {b0 base : Nat} {spare : Nat → Bool} {held : Bool} {t e : TypeId} {v : Value} {d : DataW H} {ps : List MemPlace}
theorem str_arr (n : Nat) (ht : P.underlying t = some (.array n e)) (hC : P.cellsOf t = n) (he : P.underlying e = some .string) (hc : P.cellsOf e = 1) (hv : Value.okWide P w r b0 t v) (h : DataW.Trod enc P w base spare held t v d ps) :
    ∃ l : List Bytes, l.length = n ∧ v = .agg (l.map S).toArray := by
  obtain ⟨cs, rfl, hsz⟩ := okWide_arr ht hv
  obtain ⟨fuel, hf⟩ := h
  obtain ⟨xs, m, _, _, hl, hxl, hx⟩ := DataW.trod_array ht hf
  rw [hC] at hsz
  have hs : ∀ i : Fin n, ∃ s : Bytes, cs[i.1]? = some (S s) := by
    intro i
    have h1 := hx i.1 i.2
    rw [hc, Nat.mul_one, List.getElem?_eq_getElem (by rw [hxl]; exact i.2)] at h1
    have hi : i.1 < cs.size := by rw [hsz]; exact i.2
    have h2 : (List.drop i.1 (Value.agg cs).cells.toList).take 1 = [cs[i.1]] := by
      simp only [Value.cells]
      rw [List.drop_eq_getElem_cons (by simpa using hi)]
      simp
    rw [h2] at h1
    obtain ⟨s, e0, _, _⟩ := DataW.trod_string he h1
    have e1 : cs[i.1] = .string s := by simpa using e0
    exact ⟨s.data.toList, by rw [Array.getElem?_eq_getElem hi, e1, S, mk_eta]⟩
  obtain ⟨f, hf⟩ := Classical.axiomOfChoice hs
  refine ⟨List.ofFn f, List.length_ofFn, ?_⟩
  congr 1
  apply Array.ext_getElem?
  intro i
  by_cases hi : i < n
  · rw [hf ⟨i, hi⟩]
    simp [hi]
  · rw [Array.getElem?_eq_none (by omega), Array.getElem?_eq_none (by simp; omega)]
theorem str_arr3 (ht : P.underlying t = some (.array 3 e)) (hC : P.cellsOf t = 3) (he : P.underlying e = some .string) (hc : P.cellsOf e = 1) (hv : Value.okWide P w r b0 t v) (h : DataW.Trod enc P w base spare held t v d ps) :
    ∃ a b c : Bytes, v = .agg #[S a, S b, S c] := by
  obtain ⟨l, hl, rfl⟩ := str_arr 3 ht hC he hc hv h
  obtain ⟨a, b, c, rfl⟩ := list3 hl
  exact ⟨a, b, c, rfl⟩
theorem str_arr2 (ht : P.underlying t = some (.array 2 e)) (hC : P.cellsOf t = 2) (he : P.underlying e = some .string) (hc : P.cellsOf e = 1) (hv : Value.okWide P w r b0 t v) (h : DataW.Trod enc P w base spare held t v d ps) :
    ∃ a b : Bytes, v = .agg #[S a, S b] := by
  obtain ⟨l, hl, rfl⟩ := str_arr 2 ht hC he hc hv h
  obtain ⟨a, b, rfl⟩ := list2 hl
  exact ⟨a, b, rfl⟩
end
end Go.Proofs.YtmapjaihkmjmmaaDoor
