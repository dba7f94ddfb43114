/-
  For every list of records and every record, the statement CatalogAdds returns true, and its arguments read as they did before.
  Conditions: those of the tied card alone (the listed package-level variables hold what the program lays).
-/
import Derived.Test.YtmapjaihkmjmmaaDoorLawA
import Derived.Test.YtmapjaihkmjmmaaDoorOpen
import Derived.Test.YtmapjaihkmjmmaaDoorCards
import Derived.Test.YtmapjaihkmjmmaaDoorTie
namespace Go.Proofs.YtmapjaihkmjmmaaDoor
open Go.ChangeShapes Go.WideShapes Go.ChangeAt Go.RowKit

theorem own : ownKnob Tryd.prog.godebug = none := by kernel_rfl
theorem laidOut : laidOutB Tryd.prog = true := by kernel_rfl

set_option maxRecDepth 100000 in
theorem rec_opens : Opens Tryd.prog 25 tRec Rec.Wf := by
  refine ⟨by kernel_rfl, by decide, fun {H enc w base spare held fuel cs x} h => ?_⟩
  obtain ⟨xs, n, _, _, hl, hxl, hf⟩ := DataW.trod_struct Tryd.underlying25 h
  have hc : Tryd.prog.cellsOf 25 = 3 := by kernel_rfl
  have c1 : Tryd.prog.cellsOf 23 = 1 := by kernel_rfl
  have c2 : Tryd.prog.cellsOf 3 = 1 := by kernel_rfl
  have c3 : Tryd.prog.cellsOf 9 = 1 := by kernel_rfl
  rw [hc] at hl
  obtain ⟨a, b, c, rfl⟩ := list3 hl
  simp at hxl
  have h0 := hf 0 _ rfl
  have h1 := hf 1 _ rfl
  have h2 := hf 2 _ rfl
  rw [List.getElem?_eq_getElem (by omega)] at h0 h1 h2
  simp [c1, c2, c3] at h0 h1 h2
  obtain ⟨i, e0, _, w0⟩ := DataW.trod_int Tryd.underlying23 h0
  obtain ⟨j, e1, _, w1⟩ := DataW.trod_int Tryd.underlying3 h1
  obtain ⟨s, e2, _, w2⟩ := DataW.trod_string Tryd.underlying9 h2
  cases e0; cases e1; cases e2
  rw [Go.Lit.wf_int_iff] at w0 w1
  have k0 : IntKind.u32.min = 0 := rfl
  have k1 : IntKind.u32.max = 4294967295 := rfl
  have k2 : IntKind.i64.min = -9223372036854775808 := rfl
  have k3 : IntKind.i64.max = 9223372036854775807 := rfl
  have k4 : maxLen = 9223372036854775807 := rfl
  have e : ((i.toNat : Nat) : Int) = i := Int.toNat_of_nonneg (by omega)
  have hsz : s.data.toList.length = s.size := Array.length_toList
  refine ⟨⟨i.toNat, j, s.data.toList⟩, ?_, ?_⟩
  · show _ = _
    rw [Rec.cs, e]
  · exact ⟨by show i.toNat < _; omega, by show _ ≤ j; omega, by show j ≤ _; omega, by show s.data.toList.length ≤ _; omega⟩

set_option maxRecDepth 100000 in
theorem rec_arg {H : Type} {enc : TypeId × Value → H} {w : World} {r : Reach} {b0 base : Nat} {spare : Nat → Bool} {held : Bool} {v : Value} {d : DataW H} {ps : List MemPlace} (hv : Value.okWide Tryd.prog w r b0 25 v) (h : DataW.Trod enc Tryd.prog w base spare held 25 v d ps) :
    ∃ r : Rec, v = r.v ∧ r.Wf := by
  obtain ⟨v0, v1, v2, y0, y1, y2, n, rfl, _, _, h0, h1, h2⟩ := Go.Joins.open_agg3 Tryd.underlying25 (by kernel_rfl) (by kernel_rfl) hv h
  obtain ⟨i, e0, _, w0⟩ := DataW.trod_int Tryd.underlying23 h0
  obtain ⟨j, e1, _, w1⟩ := DataW.trod_int Tryd.underlying3 h1
  obtain ⟨s, e2, _, w2⟩ := DataW.trod_string Tryd.underlying9 h2
  cases e0; cases e1; cases e2
  rw [Go.Lit.wf_int_iff] at w0 w1
  have k0 : IntKind.u32.min = 0 := rfl
  have k1 : IntKind.u32.max = 4294967295 := rfl
  have k2 : IntKind.i64.min = -9223372036854775808 := rfl
  have k3 : IntKind.i64.max = 9223372036854775807 := rfl
  have k4 : maxLen = 9223372036854775807 := rfl
  have e : ((i.toNat : Nat) : Int) = i := Int.toNat_of_nonneg (by omega)
  have hsz : s.data.toList.length = s.size := Array.length_toList
  refine ⟨⟨i.toNat, j, s.data.toList⟩, ?_, ?_⟩
  · rw [Rec.v, e]
  · exact ⟨by show i.toNat < _; omega, by show _ ≤ j; omega, by show j ≤ _; omega, by show s.data.toList.length ≤ _; omega⟩

theorem glob_of_laid {W : World} (h : laidMetH Tryd.prog Rows.catalogAddsRow.laid W) : Glob (HeapI W) := by
  rw [MakeChecks.laidMetH_plain _ _ _ (by kernel_rfl)] at h
  have h2 : Lib.TabIs Tryd.prog W "internal/strconv.uint64pow10" .u64 Lib.pow10Tab :=
    Lib.tabIs_of_head (t := 111) (e := 49) (n := 20) (g := 0) (rest := []) (by kernel_rfl) (by kernel_rfl) Tryd.underlying111 Tryd.underlying49 (by kernel_rfl) (by kernel_rfl) h.tail.tail
  exact HeapI.of_var (by kernel_rfl) h2

set_option maxRecDepth 100000 in
theorem adds_lifted (os : Os) (started : os.Started) (H : Type) (enc : TypeId × Value → H) :
    ReturnsInHanded {} Tryd.checked os 3 .any (fun w args => (Rows.catalogAddsSpec.pre enc Tryd.prog Tryd.f3 Rows.catalogAddsRow.domain false w args ∧ laidMetH Tryd.prog Rows.catalogAddsRow.laid w) ∧ sizedMet enc Tryd.prog Tryd.f3 (OpenSpec.ofChange Rows.catalogAddsSpec) false w args)
      (Rows.catalogAddsSpec.post enc Tryd.prog Tryd.f3 false true false false) := by
  refine returnsInHanded_of_change_and (C := Tryd.checked) (X := fun w _ => laidMetH Tryd.prog Rows.catalogAddsRow.laid w) (fun _ _ _ hh h => h.of_heap hh) own started (by kernel_rfl) Tryd.func3
    (ChangeSpec.witness_shaped (enc := enc) (C := Tryd.checked) (os := os) (X := fun w _ => laidMetH Tryd.prog Rows.catalogAddsRow.laid w) false (World.laidAll Tryd.prog os Rows.catalogAddsRow.laid) #[.slice none 0 0, .agg #[.int .u32 0, .int .i64 0, .string ⟨#[]⟩]] 8 (World.laidAll_os _ _ _)
      (World.shaped_of_ZipB (by kernel_rfl) (by kernel_rfl)) (by kernel_rfl) (by kernel_rfl) (by kernel_rfl)
      (by rw [MakeChecks.laidMetH_plain _ _ _ (by kernel_rfl)]; exact laidMet_laidAll _ (by kernel_rfl) (by kernel_rfl))) ?_
  intro W base args ds gs before hval0 hW _ _ hL _
  have hval : ∀ (j : Nat) t v, Tryd.f3.params[j]? = some t → args[j]? = some v → Value.okWide Tryd.prog W .any base t v := hval0
  have hW' := hW
  obtain ⟨p, q, hA0, hV, rfl, _, _⟩ := hW
  have hA : DataW.TrodAll enc Tryd.prog W 0 (fun _ => true) true Tryd.f3.params.toList args.toList ds p := hA0
  rw [Tryd.params3] at hA hval
  obtain ⟨rfl, rfl⟩ := trodVars_none hV
  obtain ⟨v0, v1, d0, d1, p0, p1, rfl, rfl, rfl, h0, h1⟩ := trodAll_two hA
  obtain ⟨l, hl, hlw⟩ := rec_opens.arg Tryd.underlying22 (hval 0 _ v0 rfl rfl) h0
  obtain ⟨r, rfl, hr⟩ := rec_arg (hval 1 _ v1 rfl rfl) h1
  refine (law_CatalogAdds (HeapI W) (glob_of_laid hL) _ l hl hlw r hr W (HeapI.ok W)).mono fun e W' ⟨he, hb⟩ => ?_
  subst he
  exact ⟨_, rfl, post_law laidOut rfl hW' (tb := 4) (by kernel_rfl) Tryd.underlying4 rfl (by kernel_rfl) hb⟩

theorem adds_row : Rows.CatalogAddsSaid :=
  OpenClaim.holds_of_wide 3 Tryd.f3 rfl rfl rfl rfl rfl rfl rfl ⟨rfl, rfl, rfl, rfl, rfl⟩ rfl rfl rfl rfl rfl (by kernel_rfl) Tryd.func3 (by kernel_rfl)
    (of_decide_eq_true (by kernel_rfl)) (by unfold Func.isWrapper; first | (rw [if_pos (by decide +kernel)]; kernel_rfl) | (rw [if_neg (by decide +kernel)]; exact ⟨rfl, rfl⟩))
    (fun os started H enc _ => adds_lifted os started H enc)
theorem adds_card : Rows.CatalogAddsCardSaid :=
  Claim7.holds_tied_plain_at .later [] [.data, .data, .data] true (true, "052465693b198630972ec265293ebf961c5340bddf17774db4a8d8bd25041c58") false adds_row (fun _ h => by cases h) (by kernel_rfl) (fun _ h => by cases h) catalogAdds_row_tie rfl ⟨rfl, rfl⟩ (by kernel_rfl) rfl
    (fun f fn hf hfn => by
      obtain rfl : f = 3 := Option.some.inj ((show Tryd.prog.funcNamed "stele/stelelaw57.CatalogAdds" = some 3 by kernel_rfl).symm.trans hf) |>.symm
      obtain rfl : fn = Tryd.f3 := (Option.some.inj (Tryd.func3.symm.trans hfn)).symm
      exact ⟨by kernel_rfl, fun j t ht => by
        rw [Tryd.params3] at ht
        have hm : t ∈ [22, 25] := by simpa using Array.mem_of_getElem? ht
        have hall : ([22, 25].all fun u => !Tryd.prog.wantsStandIn u) = true := by kernel_rfl
        exact (show Tryd.prog.wantsStandIn t = false by simpa using List.all_eq_true.1 hall t hm)⟩)
    (by kernel_rfl)
#print axioms adds_card
end Go.Proofs.YtmapjaihkmjmmaaDoor
