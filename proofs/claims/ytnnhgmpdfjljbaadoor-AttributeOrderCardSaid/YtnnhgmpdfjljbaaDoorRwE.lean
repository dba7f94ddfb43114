/-
  For every list of attributes and every four strings, the statement AttributeOrder returns true, and its arguments read as they did before.
  Conditions: those of the tied card alone (the listed package-level variables hold what the program lays).
-/
import Derived.Test.YtnnhgmpdfjljbaaDoorLwE
import Derived.Test.YtnnhgmpdfjljbaaDoorAtW
namespace Go.Proofs.YtnnhgmpdfjljbaaDoor
open Go.ChangeShapes Go.WideShapes Go.ChangeAt Go.RowKit

theorem str_len {H : Type} {enc : TypeId × Value → H} {P : Program} {w : World} {r : Reach} {b0 base : Nat} {spare : Nat → Bool} {held : Bool} {t : TypeId} {v : Value} {d : DataW H} {ps : List MemPlace} (ht : P.underlying t = some .string) (hv : Value.okWide P w r b0 t v) (h : DataW.Trod enc P w base spare held t v d ps) : ∃ s : Bytes, v = S s ∧ s.length ≤ 9223372036854775807 := by
  obtain ⟨s, rfl⟩ := okWide_string ht hv
  obtain ⟨fuel, hf⟩ := h
  obtain ⟨s', e0, _, w0⟩ := DataW.trod_string ht hf
  have e1 : s = s' := by simpa [Value.cells] using e0
  subst e1
  have k4 : maxLen = 9223372036854775807 := rfl
  have hsz : s.data.toList.length = s.size := Array.length_toList
  exact ⟨s.data.toList, by rw [S, mk_eta], by omega⟩

set_option maxRecDepth 100000 in
theorem aord_lifted (os : Os) (started : os.Started) (H : Type) (enc : TypeId × Value → H) :
    ReturnsInHanded {} Tryd.checked os 5 .any (fun w args => (Rows.attributeOrderSpec.pre enc Tryd.prog Tryd.f5 Rows.attributeOrderRow.domain false w args ∧ laidMetH Tryd.prog Rows.attributeOrderRow.laid w) ∧ sizedMet enc Tryd.prog Tryd.f5 (OpenSpec.ofChange Rows.attributeOrderSpec) false w args)
      (Rows.attributeOrderSpec.post enc Tryd.prog Tryd.f5 false true false false) := by
  refine returnsInHanded_of_change_and (C := Tryd.checked) (X := fun w _ => laidMetH Tryd.prog Rows.attributeOrderRow.laid w) (fun _ _ _ hh h => h.of_heap hh) own started (by kernel_rfl) Tryd.func5
    (ChangeSpec.witness_shaped (enc := enc) (C := Tryd.checked) (os := os) (X := fun w _ => laidMetH Tryd.prog Rows.attributeOrderRow.laid w) false (World.laidAll Tryd.prog os Rows.attributeOrderRow.laid) #[.slice none 0 0, .string ⟨#[]⟩, .string ⟨#[]⟩, .string ⟨#[]⟩, .string ⟨#[]⟩] 8 (World.laidAll_os _ _ _)
      (World.shaped_of_ZipB (by kernel_rfl) (by kernel_rfl)) (by kernel_rfl) (by kernel_rfl) (by kernel_rfl)
      (by rw [MakeChecks.laidMetH_plain _ _ _ (by kernel_rfl)]; exact laidMet_laidAll _ (by kernel_rfl) (by kernel_rfl))) ?_
  intro W base args ds gs before hval0 hW _ _ hL _
  have hval : ∀ (j : Nat) t v, Tryd.f5.params[j]? = some t → args[j]? = some v → Value.okWide Tryd.prog W .any base t v := hval0
  have hW' := hW
  obtain ⟨p, q, hA0, hV, rfl, _, _⟩ := hW
  have hA : DataW.TrodAll enc Tryd.prog W 0 (fun _ => true) true Tryd.f5.params.toList args.toList ds p := hA0
  rw [Tryd.params5] at hA hval
  obtain ⟨rfl, rfl⟩ := trodVars_none hV
  obtain ⟨v0, vs0, d0, ds0, p0, q0, hargs, rfl, rfl, h0, hr0⟩ := trodAll_cons hA
  obtain ⟨v1, vs1, d1, ds1, p1, q1, rfl, rfl, rfl, h1, hr1⟩ := trodAll_cons hr0
  obtain ⟨v2, vs2, d2, ds2, p2, q2, rfl, rfl, rfl, h2, hr2⟩ := trodAll_cons hr1
  obtain ⟨v3, vs3, d3, ds3, p3, q3, rfl, rfl, rfl, h3, hr3⟩ := trodAll_cons hr2
  obtain ⟨v4, vs4, d4, ds4, p4, q4, rfl, rfl, rfl, h4, hr4⟩ := trodAll_cons hr3
  obtain ⟨rfl, rfl, rfl⟩ := trodAll_nil hr4
  obtain rfl : args = #[v0, v1, v2, v3, v4] := by cases args with | mk a => simp_all
  obtain ⟨l, hl, hlw⟩ := at_opens.arg Tryd.underlying22 (hval 0 _ v0 rfl rfl) h0
  obtain ⟨k, rfl, hk⟩ := str_len Tryd.underlying9 (hval 1 _ v1 rfl rfl) h1
  obtain ⟨s, rfl, hs⟩ := str_len Tryd.underlying9 (hval 2 _ v2 rfl rfl) h2
  obtain ⟨k2, rfl, hk2⟩ := str_len Tryd.underlying9 (hval 3 _ v3 rfl rfl) h3
  obtain ⟨s2, rfl, hs2⟩ := str_len Tryd.underlying9 (hval 4 _ v4 rfl rfl) h4
  refine (law_AttributeOrder (HeapI W) _ l hl hlw ⟨k, s⟩ ⟨k2, s2⟩ ⟨hk, hs⟩ ⟨hk2, hs2⟩ W (HeapI.ok W)).mono fun e W' ⟨he, hb⟩ => ?_
  subst he
  exact ⟨_, rfl, post_law laidOut rfl hW' (tb := 4) (by kernel_rfl) Tryd.underlying4 rfl (by kernel_rfl) hb⟩

theorem aord_row : Rows.AttributeOrderSaid :=
  OpenClaim.holds_of_wide 5 Tryd.f5 rfl rfl rfl rfl rfl rfl rfl ⟨rfl, rfl, rfl, rfl, rfl⟩ rfl rfl rfl rfl rfl (by kernel_rfl) Tryd.func5 (by kernel_rfl)
    (of_decide_eq_true (by kernel_rfl)) (by unfold Func.isWrapper; first | (rw [if_pos (by decide +kernel)]; kernel_rfl) | (rw [if_neg (by decide +kernel)]; exact ⟨rfl, rfl⟩))
    (fun os started H enc _ => aord_lifted os started H enc)
theorem aord_card : Rows.AttributeOrderCardSaid :=
  Claim7.holds_tied_plain_at .later [] [.data, .pinned] true (true, "9358ac8b5f28ac33a41524a83dd8ece2d9ce071023be90b39078263b51b56b98") false aord_row (fun _ h => by cases h) (by kernel_rfl) (fun _ h => by cases h) attributeOrder_row_tie rfl ⟨rfl, rfl⟩ (by kernel_rfl) rfl
    (fun f fn hf hfn => by
      obtain rfl : f = 5 := Option.some.inj ((show Tryd.prog.funcNamed "stele/stelelaw32.AttributeOrder" = some 5 by kernel_rfl).symm.trans hf) |>.symm
      obtain rfl : fn = Tryd.f5 := (Option.some.inj (Tryd.func5.symm.trans hfn)).symm
      exact ⟨by kernel_rfl, fun j t ht => by
        rw [Tryd.params5] at ht
        have hm : t ∈ [22, 9] := by simpa using Array.mem_of_getElem? ht
        have hall : (List.all [22, 9] fun u => !Tryd.prog.wantsStandIn u) = true := by kernel_rfl
        exact (show Tryd.prog.wantsStandIn t = false by simpa using List.all_eq_true.1 hall t hm)⟩)
    (by kernel_rfl)
#print axioms aord_card
end Go.Proofs.YtnnhgmpdfjljbaaDoor
