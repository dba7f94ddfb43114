/-
  What the rows of this seat share: records read from memory; the listed table.
-/
import Derived.Test.YtmapjaihkmjmmaaDoorCatF
import Derived.Test.YtmapjaihkmjmmaaDoorOpen
import Derived.Test.YtmapjaihkmjmmaaDoorCards
import Derived.Test.YtmapjaihkmjmmaaDoorTie
namespace Go.Proofs.YtmapjaihkmjmmaaDoor
open Go.ChangeShapes Go.WideShapes Go.ChangeAt Go.RowKit

theorem own : ownKnob Tryd.prog.godebug = none := by kernel_rfl
theorem laidOut : laidOutB Tryd.prog = true := by kernel_rfl

set_option maxRecDepth 100000 in
theorem rec_opens : Opens Tryd.prog 25 tRec Rec.Wf := by
  refine ⟨by kernel_rfl, by decide, fun {H enc w base spare held fuel cs x} h => ?_⟩
  obtain ⟨xs, n, _, _, hl, hxl, hf⟩ := DataW.trod_struct Tryd.underlying25 h
  have hc : Tryd.prog.cellsOf 25 = 3 := by kernel_rfl
  have c1 : Tryd.prog.cellsOf 23 = 1 := by kernel_rfl
  have c2 : Tryd.prog.cellsOf 3 = 1 := by kernel_rfl
  have c3 : Tryd.prog.cellsOf 9 = 1 := by kernel_rfl
  rw [hc] at hl
  obtain ⟨a, b, c, rfl⟩ := list3 hl
  simp at hxl
  have h0 := hf 0 _ rfl
  have h1 := hf 1 _ rfl
  have h2 := hf 2 _ rfl
  rw [List.getElem?_eq_getElem (by omega)] at h0 h1 h2
  simp [c1, c2, c3] at h0 h1 h2
  obtain ⟨i, e0, _, w0⟩ := DataW.trod_int Tryd.underlying23 h0
  obtain ⟨j, e1, _, w1⟩ := DataW.trod_int Tryd.underlying3 h1
  obtain ⟨s, e2, _, w2⟩ := DataW.trod_string Tryd.underlying9 h2
  cases e0; cases e1; cases e2
  rw [Go.Lit.wf_int_iff] at w0 w1
  have k0 : IntKind.u32.min = 0 := rfl
  have k1 : IntKind.u32.max = 4294967295 := rfl
  have k2 : IntKind.i64.min = -9223372036854775808 := rfl
  have k3 : IntKind.i64.max = 9223372036854775807 := rfl
  have k4 : maxLen = 9223372036854775807 := rfl
  have e : ((i.toNat : Nat) : Int) = i := Int.toNat_of_nonneg (by omega)
  have hsz : s.data.toList.length = s.size := Array.length_toList
  refine ⟨⟨i.toNat, j, s.data.toList⟩, ?_, ?_⟩
  · show _ = _
    rw [Rec.cs, e]
  · exact ⟨by show i.toNat < _; omega, by show _ ≤ j; omega, by show j ≤ _; omega, by show s.data.toList.length ≤ _; omega⟩

set_option maxRecDepth 100000 in
theorem rec_arg {H : Type} {enc : TypeId × Value → H} {w : World} {r : Reach} {b0 base : Nat} {spare : Nat → Bool} {held : Bool} {v : Value} {d : DataW H} {ps : List MemPlace} (hv : Value.okWide Tryd.prog w r b0 25 v) (h : DataW.Trod enc Tryd.prog w base spare held 25 v d ps) :
    ∃ r : Rec, v = r.v ∧ r.Wf := by
  obtain ⟨v0, v1, v2, y0, y1, y2, n, rfl, _, _, h0, h1, h2⟩ := Go.Joins.open_agg3 Tryd.underlying25 (by kernel_rfl) (by kernel_rfl) hv h
  obtain ⟨i, e0, _, w0⟩ := DataW.trod_int Tryd.underlying23 h0
  obtain ⟨j, e1, _, w1⟩ := DataW.trod_int Tryd.underlying3 h1
  obtain ⟨s, e2, _, w2⟩ := DataW.trod_string Tryd.underlying9 h2
  cases e0; cases e1; cases e2
  rw [Go.Lit.wf_int_iff] at w0 w1
  have k0 : IntKind.u32.min = 0 := rfl
  have k1 : IntKind.u32.max = 4294967295 := rfl
  have k2 : IntKind.i64.min = -9223372036854775808 := rfl
  have k3 : IntKind.i64.max = 9223372036854775807 := rfl
  have k4 : maxLen = 9223372036854775807 := rfl
  have e : ((i.toNat : Nat) : Int) = i := Int.toNat_of_nonneg (by omega)
  have hsz : s.data.toList.length = s.size := Array.length_toList
  refine ⟨⟨i.toNat, j, s.data.toList⟩, ?_, ?_⟩
  · rw [Rec.v, e]
  · exact ⟨by show i.toNat < _; omega, by show _ ≤ j; omega, by show j ≤ _; omega, by show s.data.toList.length ≤ _; omega⟩

theorem glob_of_laid {W : World} (h : laidMetH Tryd.prog Rows.catalogAddsRow.laid W) : Glob (HeapI W) := by
  rw [MakeChecks.laidMetH_plain _ _ _ (by kernel_rfl)] at h
  have h2 : Lib.TabIs Tryd.prog W "internal/strconv.uint64pow10" .u64 Lib.pow10Tab :=
    Lib.tabIs_of_head (t := 111) (e := 49) (n := 20) (g := 0) (rest := []) (by kernel_rfl) (by kernel_rfl) Tryd.underlying111 Tryd.underlying49 (by kernel_rfl) (by kernel_rfl) h.tail.tail
  exact HeapI.of_var (by kernel_rfl) h2
end Go.Proofs.YtmapjaihkmjmmaaDoor
