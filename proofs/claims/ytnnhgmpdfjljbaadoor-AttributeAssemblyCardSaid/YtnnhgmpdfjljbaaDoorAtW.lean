/-
  What the rows of this seat share: attributes read from memory.
-/
import Derived.Test.YtnnhgmpdfjljbaaDoorLwA
import Derived.Test.YtnnhgmpdfjljbaaDoorOpen
import Derived.Test.YtnnhgmpdfjljbaaDoorCards
import Derived.Test.YtnnhgmpdfjljbaaDoorTie
namespace Go.Proofs.YtnnhgmpdfjljbaaDoor
open Go.ChangeShapes Go.WideShapes Go.ChangeAt Go.RowKit

theorem own : ownKnob Tryd.prog.godebug = none := by kernel_rfl
theorem laidOut : laidOutB Tryd.prog = true := by kernel_rfl

set_option maxRecDepth 100000 in
theorem at_opens : Opens Tryd.prog 34 tAt At.Wf := by
  refine ⟨by kernel_rfl, by decide, fun {H enc w base spare held fuel cs x} h => ?_⟩
  obtain ⟨xs, n, _, _, hl, hxl, hf⟩ := DataW.trod_struct Tryd.underlying34 h
  have hc : Tryd.prog.cellsOf 34 = 2 := by kernel_rfl
  have c3 : Tryd.prog.cellsOf 9 = 1 := by kernel_rfl
  rw [hc] at hl
  obtain ⟨a, b, rfl⟩ := list2 hl
  simp at hxl
  have h0 := hf 0 _ rfl
  have h1 := hf 1 _ rfl
  rw [List.getElem?_eq_getElem (by omega)] at h0 h1
  simp [c3] at h0 h1
  obtain ⟨s, e0, _, w0⟩ := DataW.trod_string Tryd.underlying9 h0
  obtain ⟨t, e1, _, w1⟩ := DataW.trod_string Tryd.underlying9 h1
  cases e0; cases e1
  have k4 : maxLen = 9223372036854775807 := rfl
  have hsz : s.data.toList.length = s.size := Array.length_toList
  have htz : t.data.toList.length = t.size := Array.length_toList
  refine ⟨⟨s.data.toList, t.data.toList⟩, ?_, ?_⟩
  · rfl
  · exact ⟨by show s.data.toList.length ≤ _; omega, by show t.data.toList.length ≤ _; omega⟩

theorem str_one {P : Program} {w : World} {r : Reach} {b0 : Nat} {t : TypeId} {v : Value} (ht : P.underlying t = some .string) (hv : Value.okWide P w r b0 t v) : ∃ s : Bytes, v = S s := by
  obtain ⟨s, rfl⟩ := okWide_string ht hv
  exact ⟨s.data.toList, by rw [S, mk_eta]⟩
end Go.Proofs.YtnnhgmpdfjljbaaDoor
