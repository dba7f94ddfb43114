/-
  For every three lists of attributes, the statement AttributeMergeLaws returns true, and its arguments read as they did before.
  Conditions: those of the tied card alone (the listed package-level variables hold what the program lays).
-/
import Derived.Test.YtnnhgmpdfjljbaaDoorLwM
import Derived.Test.YtnnhgmpdfjljbaaDoorAtW
namespace Go.Proofs.YtnnhgmpdfjljbaaDoor
open Go.ChangeShapes Go.WideShapes Go.ChangeAt Go.RowKit

set_option maxRecDepth 100000 in
theorem amlw_lifted (os : Os) (started : os.Started) (H : Type) (enc : TypeId × Value → H) :
    ReturnsInHanded {} Tryd.checked os 6 .any (fun w args => (Rows.attributeMergeLawsSpec.pre enc Tryd.prog Tryd.f6 Rows.attributeMergeLawsRow.domain false w args ∧ laidMetH Tryd.prog Rows.attributeMergeLawsRow.laid w) ∧ sizedMet enc Tryd.prog Tryd.f6 (OpenSpec.ofChange Rows.attributeMergeLawsSpec) false w args)
      (Rows.attributeMergeLawsSpec.post enc Tryd.prog Tryd.f6 false true false false) := by
  refine returnsInHanded_of_change_and (C := Tryd.checked) (X := fun w _ => laidMetH Tryd.prog Rows.attributeMergeLawsRow.laid w) (fun _ _ _ hh h => h.of_heap hh) own started (by kernel_rfl) Tryd.func6
    (ChangeSpec.witness_shaped (enc := enc) (C := Tryd.checked) (os := os) (X := fun w _ => laidMetH Tryd.prog Rows.attributeMergeLawsRow.laid w) false (World.laidAll Tryd.prog os Rows.attributeMergeLawsRow.laid) #[.slice none 0 0, .slice none 0 0, .slice none 0 0] 8 (World.laidAll_os _ _ _)
      (World.shaped_of_ZipB (by kernel_rfl) (by kernel_rfl)) (by kernel_rfl) (by kernel_rfl) (by kernel_rfl)
      (by rw [MakeChecks.laidMetH_plain _ _ _ (by kernel_rfl)]; exact laidMet_laidAll _ (by kernel_rfl) (by kernel_rfl))) ?_
  intro W base args ds gs before hval0 hW _ _ hL _
  have hval : ∀ (j : Nat) t v, Tryd.f6.params[j]? = some t → args[j]? = some v → Value.okWide Tryd.prog W .any base t v := hval0
  have hW' := hW
  obtain ⟨p, q, hA0, hV, rfl, _, _⟩ := hW
  have hA : DataW.TrodAll enc Tryd.prog W 0 (fun _ => true) true Tryd.f6.params.toList args.toList ds p := hA0
  rw [Tryd.params6] at hA hval
  obtain ⟨rfl, rfl⟩ := trodVars_none hV
  obtain ⟨v0, v1, v2, d0, d1, d2, p0, p1, p2, rfl, rfl, rfl, h0, h1, h2⟩ := trodAll_three hA
  obtain ⟨l, hl, hlw⟩ := at_opens.arg Tryd.underlying22 (hval 0 _ v0 rfl rfl) h0
  obtain ⟨m, hm, hmw⟩ := at_opens.arg Tryd.underlying22 (hval 1 _ v1 rfl rfl) h1
  obtain ⟨q, hq, hqw⟩ := at_opens.arg Tryd.underlying22 (hval 2 _ v2 rfl rfl) h2
  refine (law_AttributeMergeLaws (HeapI W) _ _ _ l m q hl hlw hm hmw hq hqw W (HeapI.ok W)).mono fun e W' ⟨he, hb⟩ => ?_
  subst he
  exact ⟨_, rfl, post_law laidOut rfl hW' (tb := 4) (by kernel_rfl) Tryd.underlying4 rfl (by kernel_rfl) hb⟩

theorem amlw_row : Rows.AttributeMergeLawsSaid :=
  OpenClaim.holds_of_wide 6 Tryd.f6 rfl rfl rfl rfl rfl rfl rfl ⟨rfl, rfl, rfl, rfl, rfl⟩ rfl rfl rfl rfl rfl (by kernel_rfl) Tryd.func6 (by kernel_rfl)
    (of_decide_eq_true (by kernel_rfl)) (by unfold Func.isWrapper; first | (rw [if_pos (by decide +kernel)]; kernel_rfl) | (rw [if_neg (by decide +kernel)]; exact ⟨rfl, rfl⟩))
    (fun os started H enc _ => amlw_lifted os started H enc)
theorem amlw_card : Rows.AttributeMergeLawsCardSaid :=
  Claim7.holds_tied_plain_at .later [] [.data, .pinned] true (true, "9358ac8b5f28ac33a41524a83dd8ece2d9ce071023be90b39078263b51b56b98") false amlw_row (fun _ h => by cases h) (by kernel_rfl) (fun _ h => by cases h) attributeMergeLaws_row_tie rfl ⟨rfl, rfl⟩ (by kernel_rfl) rfl
    (fun f fn hf hfn => by
      obtain rfl : f = 6 := Option.some.inj ((show Tryd.prog.funcNamed "stele/stelelaw32.AttributeMergeLaws" = some 6 by kernel_rfl).symm.trans hf) |>.symm
      obtain rfl : fn = Tryd.f6 := (Option.some.inj (Tryd.func6.symm.trans hfn)).symm
      exact ⟨by kernel_rfl, fun j t ht => by
        rw [Tryd.params6] at ht
        have hm : t ∈ [22] := by simpa using Array.mem_of_getElem? ht
        have hall : (List.all [22] fun u => !Tryd.prog.wantsStandIn u) = true := by kernel_rfl
        exact (show Tryd.prog.wantsStandIn t = false by simpa using List.all_eq_true.1 hall t hm)⟩)
    (by kernel_rfl)
#print axioms amlw_card
end Go.Proofs.YtnnhgmpdfjljbaaDoor
