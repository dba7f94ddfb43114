/-
  For every tree and every path, the statement DirtreeQueries returns true, and its arguments read as they did before. Conditions: those of the tied card alone (the listed package-level variables hold what the program lays).
-/
import Derived.Test.YtcbmdghnlbieeaaGreatDoorZS
import Derived.Test.YtcbmdghnlbieeaaGreatDoorZM
namespace Go.Proofs.YtcbmdghnlbieeaaGreatDoor
open Go.ChangeShapes Go.WideShapes Go.ChangeAt Go.RowKit

theorem str_len {H : Type} {enc : TypeId × Value → H} {P : Program} {w : World} {r : Reach} {b0 base : Nat} {spare : Nat → Bool} {held : Bool} {t : TypeId} {v : Value} {d : DataW H} {ps : List MemPlace} (ht : P.underlying t = some .string) (hv : Value.okWide P w r b0 t v) (h : DataW.Trod enc P w base spare held t v d ps) : ∃ s : Bytes, v = S s ∧ s.length ≤ 9223372036854775807 := by
  obtain ⟨s, rfl⟩ := okWide_string ht hv
  obtain ⟨fuel, hf⟩ := h
  obtain ⟨s', e0, _, w0⟩ := DataW.trod_string ht hf
  have e1 : s = s' := by simpa [Value.cells] using e0
  subst e1
  have k4 : maxLen = 9223372036854775807 := rfl
  have hsz : s.data.toList.length = s.size := Array.length_toList
  exact ⟨s.data.toList, by rw [S, mk_eta], by omega⟩

set_option maxRecDepth 100000 in
theorem dque_lifted (os : Os) (started : os.Started) (H : Type) (enc : TypeId × Value → H) :
    ReturnsInHanded {} Tryz.checked os 7 .any (fun w args => (Rows.dirtreeQueriesSpec.pre enc Tryz.prog Tryz.f7 Rows.dirtreeQueriesRow.domain false w args ∧ laidMetH Tryz.prog Rows.dirtreeQueriesRow.laid w) ∧ sizedMet enc Tryz.prog Tryz.f7 (OpenSpec.ofChange Rows.dirtreeQueriesSpec) false w args)
      (Rows.dirtreeQueriesSpec.post enc Tryz.prog Tryz.f7 false true false false) := by
  refine handed_shaped (C := Tryz.checked) (X := fun w _ => laidMetH Tryz.prog Rows.dirtreeQueriesRow.laid w) (fun _ _ _ hh h => h.of_heap hh) own started (by kernel_rfl) Tryz.func7
    (ChangeSpec.witness_shaped (enc := enc) (C := Tryz.checked) (os := os) (X := fun w _ => laidMetH Tryz.prog Rows.dirtreeQueriesRow.laid w) false (World.laidAll Tryz.prog os Rows.dirtreeQueriesRow.laid) #[.slice none 0 0, .string ⟨#[]⟩] 8 (World.laidAll_os _ _ _)
      (World.shaped_of_ZipB (by kernel_rfl) (by kernel_rfl)) (by kernel_rfl) (by kernel_rfl) (by kernel_rfl)
      (by rw [MakeChecks.laidMetH_plain _ _ _ (by kernel_rfl)]; exact laidMet_laidAll _ (by kernel_rfl) (by kernel_rfl))) ?_
  intro W base args ds gs before hval0 hW hsh hL
  have hval : ∀ (j : Nat) t v, Tryz.f7.params[j]? = some t → args[j]? = some v → Value.okWide Tryz.prog W .any base t v := hval0
  have hW' := hW
  obtain ⟨p, q, hA0, hV, rfl, _, _⟩ := hW
  have hA : DataW.TrodAll enc Tryz.prog W 0 (fun _ => true) true Tryz.f7.params.toList args.toList ds p := hA0
  rw [Tryz.params7] at hA hval
  obtain ⟨rfl, rfl⟩ := trodVars_none hV
  obtain ⟨v0, v1, d0, d1, p0, p1, rfl, rfl, rfl, h0, h1⟩ := trodAll_two hA
  obtain ⟨l, hl, hlw⟩ := ent_opens.arg Tryz.underlying22 (hval 0 _ v0 rfl rfl) h0
  obtain ⟨s, rfl, hs⟩ := str_len Tryz.underlying9 (hval 1 _ v1 rfl rfl) h1
  refine (law_DirtreeQueries (HeapI W) (glob_of_laid hL hsh) _ l hl hlw s hs W (HeapI.ok W)).mono fun e W' ⟨he, hb⟩ => ?_
  subst he
  exact ⟨_, rfl, post_law laidOut rfl hW' (tb := 4) (by kernel_rfl) Tryz.underlying4 rfl (by kernel_rfl) hb⟩

theorem dque_row : Rows.DirtreeQueriesSaid :=
  OpenClaim.holds_of_wide 7 Tryz.f7 rfl rfl rfl rfl rfl rfl rfl ⟨rfl, rfl, rfl, rfl, rfl⟩ rfl rfl rfl rfl rfl (by kernel_rfl) Tryz.func7 (by kernel_rfl)
    (of_decide_eq_true (by kernel_rfl)) (by unfold Func.isWrapper; first | (rw [if_pos (by decide +kernel)]; kernel_rfl) | (rw [if_neg (by decide +kernel)]; exact ⟨rfl, rfl⟩))
    (fun os started H enc _ => dque_lifted os started H enc)
theorem dque_card : Rows.DirtreeQueriesCardSaid :=
  Claim7.holds_tied_plain_at .later [] [.data, .data, .data, .data, .sentinel, .sentinel, .pinned] true (true, "eec0d5612baa64a3229f16033e416e2670cd7e7b277b87c34fefe3d96faa777a") true dque_row (fun _ h => by cases h) (by kernel_rfl) (fun _ h => by cases h) dirtreeQueries_row_tie rfl ⟨rfl, rfl⟩ (by kernel_rfl) rfl
    (fun f fn hf hfn => by
      obtain rfl : f = 7 := Option.some.inj ((show Tryz.prog.funcNamed "stele/stelelaw37.DirtreeQueries" = some 7 by kernel_rfl).symm.trans hf) |>.symm
      obtain rfl : fn = Tryz.f7 := (Option.some.inj (Tryz.func7.symm.trans hfn)).symm
      exact ⟨by kernel_rfl, fun j t ht => by
        rw [Tryz.params7] at ht
        have hm : t ∈ [22, 9] := by simpa using Array.mem_of_getElem? ht
        have hall : (List.all [22, 9] fun u => !Tryz.prog.wantsStandIn u) = true := by kernel_rfl
        exact (show Tryz.prog.wantsStandIn t = false by simpa using List.all_eq_true.1 hall t hm)⟩)
    (by kernel_rfl)
#print axioms dque_card
end Go.Proofs.YtcbmdghnlbieeaaGreatDoor
