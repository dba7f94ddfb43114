/-
  For every list of records, every number of an archive and every list of session numbers, the statement CatalogDisjoint returns true, and its arguments read as they did before.
  Conditions: those of the tied card alone (the listed package-level variables hold what the program lays).
-/
import Derived.Test.YtmapjaihkmjmmaaDoorLawD
import Derived.Test.YtmapjaihkmjmmaaDoorRowBase
namespace Go.Proofs.YtmapjaihkmjmmaaDoor
open Go.ChangeShapes Go.WideShapes Go.ChangeAt Go.RowKit

theorem u8_opens : Opens Tryd.prog 5 (tInt .u8) (fun n => 0 ≤ n ∧ n < 256) := by
  refine ⟨by kernel_rfl, by decide, fun {H enc w base spare held fuel cs x} h => ?_⟩
  obtain ⟨i, e0, _, w0⟩ := DataW.trod_int Tryd.underlying5 h
  rw [Go.Lit.wf_int_iff] at w0
  have k0 : IntKind.u8.min = 0 := rfl
  have k1 : IntKind.u8.max = 255 := rfl
  exact ⟨i, e0, by omega, by omega⟩

theorem u32_wf {n : Int} (h : (Lit.int .u32 n).wf = true) : 0 ≤ n ∧ n < 4294967296 := by
  rw [Go.Lit.wf_int_iff] at h
  have k0 : IntKind.u32.min = 0 := rfl
  have k1 : IntKind.u32.max = 4294967295 := rfl
  omega

theorem u32_nat {n : Nat} (h : (Lit.int .u32 (n : Int)).wf = true) : n < 4294967296 := by
  have := (u32_wf h).2
  omega

set_option maxRecDepth 100000 in
theorem disj_lifted (os : Os) (started : os.Started) (H : Type) (enc : TypeId × Value → H) :
    ReturnsInHanded {} Tryd.checked os 8 .any (fun w args => (Rows.catalogDisjointSpec.pre enc Tryd.prog Tryd.f8 Rows.catalogDisjointRow.domain false w args ∧ laidMetH Tryd.prog Rows.catalogDisjointRow.laid w) ∧ sizedMet enc Tryd.prog Tryd.f8 (OpenSpec.ofChange Rows.catalogDisjointSpec) false w args)
      (Rows.catalogDisjointSpec.post enc Tryd.prog Tryd.f8 false true false false) := by
  refine returnsInHanded_of_change_and (C := Tryd.checked) (X := fun w _ => laidMetH Tryd.prog Rows.catalogDisjointRow.laid w) (fun _ _ _ hh h => h.of_heap hh) own started (by kernel_rfl) Tryd.func8
    (ChangeSpec.witness_shaped (enc := enc) (C := Tryd.checked) (os := os) (X := fun w _ => laidMetH Tryd.prog Rows.catalogDisjointRow.laid w) false (World.laidAll Tryd.prog os Rows.catalogDisjointRow.laid) #[.slice none 0 0, .int .u32 0, .slice none 0 0] 8 (World.laidAll_os _ _ _)
      (World.shaped_of_ZipB (by kernel_rfl) (by kernel_rfl)) (by kernel_rfl) (by kernel_rfl) (by kernel_rfl)
      (by rw [MakeChecks.laidMetH_plain _ _ _ (by kernel_rfl)]; exact laidMet_laidAll _ (by kernel_rfl) (by kernel_rfl))) ?_
  intro W base args ds gs before hval0 hW _ _ hL _
  have hval : ∀ (j : Nat) t v, Tryd.f8.params[j]? = some t → args[j]? = some v → Value.okWide Tryd.prog W .any base t v := hval0
  have hW' := hW
  obtain ⟨p, q, hA0, hV, rfl, _, _⟩ := hW
  have hA : DataW.TrodAll enc Tryd.prog W 0 (fun _ => true) true Tryd.f8.params.toList args.toList ds p := hA0
  rw [Tryd.params8] at hA hval
  obtain ⟨rfl, rfl⟩ := trodVars_none hV
  obtain ⟨v0, v1, v2, d0, d1, d2, p0, p1, p2, rfl, rfl, rfl, h0, h1, h2⟩ := trodAll_three hA
  obtain ⟨l, hl, hlw⟩ := rec_opens.arg Tryd.underlying22 (hval 0 _ v0 rfl rfl) h0
  obtain ⟨an, rfl, _, _, han⟩ := open_int Tryd.underlying23 (hval 1 _ v1 rfl rfl) h1
  obtain ⟨ns, hs, hns⟩ := u8_opens.arg Tryd.underlying45 (hval 2 _ v2 rfl rfl) h2
  obtain ⟨an, rfl⟩ : ∃ n : Nat, an = n := Int.eq_ofNat_of_zero_le (u32_wf han).1
  refine (law_CatalogDisjoint (HeapI W) (glob_of_laid hL) _ l hl hlw an (u32_nat han) _ ns hs hns W (HeapI.ok W)).mono fun e W' ⟨he, hb⟩ => ?_
  subst he
  exact ⟨_, rfl, post_law laidOut rfl hW' (tb := 4) (by kernel_rfl) Tryd.underlying4 rfl (by kernel_rfl) hb⟩

theorem disj_row : Rows.CatalogDisjointSaid :=
  OpenClaim.holds_of_wide 8 Tryd.f8 rfl rfl rfl rfl rfl rfl rfl ⟨rfl, rfl, rfl, rfl, rfl⟩ rfl rfl rfl rfl rfl (by kernel_rfl) Tryd.func8 (by kernel_rfl)
    (of_decide_eq_true (by kernel_rfl)) (by unfold Func.isWrapper; first | (rw [if_pos (by decide +kernel)]; kernel_rfl) | (rw [if_neg (by decide +kernel)]; exact ⟨rfl, rfl⟩))
    (fun os started H enc _ => disj_lifted os started H enc)
theorem disj_card : Rows.CatalogDisjointCardSaid :=
  Claim7.holds_tied_plain_at .later [] [.data, .data, .data] true (true, "052465693b198630972ec265293ebf961c5340bddf17774db4a8d8bd25041c58") false disj_row (fun _ h => by cases h) (by kernel_rfl) (fun _ h => by cases h) catalogDisjoint_row_tie rfl ⟨rfl, rfl⟩ (by kernel_rfl) rfl
    (fun f fn hf hfn => by
      obtain rfl : f = 8 := Option.some.inj ((show Tryd.prog.funcNamed "stele/stelelaw57.CatalogDisjoint" = some 8 by kernel_rfl).symm.trans hf) |>.symm
      obtain rfl : fn = Tryd.f8 := (Option.some.inj (Tryd.func8.symm.trans hfn)).symm
      exact ⟨by kernel_rfl, fun j t ht => by
        rw [Tryd.params8] at ht
        have hm : t ∈ [22, 23, 45] := by simpa using Array.mem_of_getElem? ht
        have hall : (List.all [22, 23, 45] fun u => !Tryd.prog.wantsStandIn u) = true := by kernel_rfl
        exact (show Tryd.prog.wantsStandIn t = false by simpa using List.all_eq_true.1 hall t hm)⟩)
    (by kernel_rfl)
#print axioms disj_card
end Go.Proofs.YtmapjaihkmjmmaaDoor
