/-
  The laws of layer 37: DirtreeDiffers: its walk.
  For every two trees, the statement DirtreeDiffers returns true, and its arguments read as they did before. Conditions: those of the tied card alone (the listed package-level variables hold what the program lays).
-/
import Derived.Test.YtcbmdghnlbieeaaGreatDoorZM
import Derived.Test.YtcbmdghnlbieeaaGreatDoorZN
namespace Go.Proofs.YtcbmdghnlbieeaaGreatDoor
open Go.RowKit

set_option maxRecDepth 100000 in
set_option maxHeartbeats 2000000 in
theorem law_DirtreeDiffers (I : IH) (hI : Glob I) (v1 v2 : Value) (a b : List Ent) (hv1 : RdS tEnt I v1 a) (hv2 : RdS tEnt I v2 b) (hta : AllE a) (htb : AllE b) (w : World) (hw : Ok I w) :
    Calls Tryz.prog 10 #[v1, v2] w fun r w' => r = .returned (.bool true) ∧ Below w.heap.size w w' := by
  have Hal := Lib.hid (fun w hw => law_alive37 I hI w hw)
  have Hr1 := Lib.hid (fun w hw => ref37_Right I _ a hv1 hta w hw)
  have Hr2 := Lib.hid (fun w hw => ref37_Right I _ b hv2 htb w hw)
  have HI := Lib.hid hI
  obtain ⟨ao, cap, rfl, hcap, hcm, _⟩ := id hv1
  obtain ⟨ao2, cap2, rfl, hcap2, hcm2, _⟩ := id hv2
  have Hv1 := Lib.hid hv1
  have Hv2 := Lib.hid hv2
  clear hv1 hv2 hI
  go_enter Tryz.func10, Tryz.ntmps10
  go_wp2_with fail
  refine (Hal.out _ hw).mono ?_
  rintro e1 w1 ⟨rfl, hb1⟩
  have hok1 : Ok I w1 := hw.below (Nat.le_refl _) hb1
  rcases right_cases a with hr | ⟨hr, hl, hok, hg⟩
  · rw [hr] at Hr1
    go_wp2_with fail
    refine (Hr1.out _ hok1).mono ?_
    rintro e2 w2 ⟨rfl, hb2⟩
    go_wp2
    go_ret
    exact ⟨rfl, hb1.trans (hb2.mono hb1.size)⟩
  rw [hr] at Hr1
  have Hok := Lib.hid hok
  have Hg := Lib.hid hg
  clear hok hg hr
  go_wp2_with fail
  refine (Hr1.out _ hok1).mono ?_
  rintro e2 w2 ⟨rfl, hb2⟩
  have hok2 : Ok I w2 := hok1.below (Nat.le_refl _) hb2
  have hb2' := hb1.trans (hb2.mono hb1.size)
  clear hb1 hb2
  rcases right_cases b with hr | ⟨hr, hl2, hok, hg⟩
  · rw [hr] at Hr2
    go_wp2_with fail
    refine (Hr2.out _ hok2).mono ?_
    rintro e3 w3 ⟨rfl, hb3⟩
    go_wp2
    go_ret
    exact ⟨rfl, hb2'.trans (hb3.mono hb2'.size)⟩
  rw [hr] at Hr2
  have Hok2 := Lib.hid hok
  have Hg2 := Lib.hid hg
  clear hok hg hr
  go_wp2_with fail
  refine (Hr2.out _ hok2).mono ?_
  rintro e3 w3 ⟨rfl, hb3⟩
  have hok3 : Ok I w3 := hok2.below (Nat.le_refl _) hb3
  have hb3' := hb2'.trans (hb3.mono hb2'.size)
  have hs3 := hb3'.size
  clear hb2' hb3
  go_wp2_with fail
  refine (dt_Diff I HI.out _ _ a b Hv1.out Hv2.out (sml_of Hg.out) (sml_of Hg2.out) (by omega) (by omega) _ hok3).mono ?_
  rintro e4 w4 ⟨l, hsl, v4, I4, rfl, hb4, hx4, hok4, hr4⟩
  have hl4 : l = diffM a b := diffU_sorted Hok.out.srt Hok2.out.srt hsl.1 hsl.2
  subst hl4
  have Hk := Lib.hid (hx4.keep hok3 (Nat.le_refl _))
  have Hrd := Lib.hid (ref37_Diff I4 _ _ a b (Hv1.out.mono Hk.out) (Hv2.out.mono Hk.out) (sml_of Hg.out) (sml_of Hg2.out) (by omega) (by omega) w4 hok4)
  generalize diffM a b = L at hr4 Hrd
  obtain ⟨ao4, cap4, rfl, _, _, _⟩ := id hr4
  have Hr4 := Lib.hid hr4
  have hb4' := hb3'.trans (hb4.mono hs3)
  have hs4 := hb4'.size
  clear hb4 hb3' hr4 hx4 hsl
  go_wp2_with fail
  refine Hrd.out.mono ?_
  rintro e5 w5 ⟨v5, I5, rfl, hb5, hx5, hok5, hr5⟩
  obtain ⟨ao5, cap5, rfl, _, _, _⟩ := id hr5
  have Hsa := Lib.hid (law_same37 I5 _ _ _ (Hr4.out.mono (hx5.keep hok4 (Nat.le_refl _))) hr5 w5 hok5)
  have hb5' := hb4'.trans (hb5.mono hs4)
  have hs5 := hb5'.size
  clear hb5 hb4' hr5 hx5 Hr4
  go_wp2_with fail
  refine Hsa.out.mono ?_
  rintro e6 w6 ⟨rfl, hb6⟩
  go_wp2
  go_ret
  exact ⟨rfl, hb5'.trans (hb6.mono hs5)⟩
end Go.Proofs.YtcbmdghnlbieeaaGreatDoor
namespace Go.Proofs.YtcbmdghnlbieeaaGreatDoor
open Go.ChangeShapes Go.WideShapes Go.ChangeAt Go.RowKit

set_option maxRecDepth 100000 in
theorem ddif_lifted (os : Os) (started : os.Started) (H : Type) (enc : TypeId × Value → H) :
    ReturnsInHanded {} Tryz.checked os 10 .any (fun w args => (Rows.dirtreeDiffersSpec.pre enc Tryz.prog Tryz.f10 Rows.dirtreeDiffersRow.domain false w args ∧ laidMetH Tryz.prog Rows.dirtreeDiffersRow.laid w) ∧ sizedMet enc Tryz.prog Tryz.f10 (OpenSpec.ofChange Rows.dirtreeDiffersSpec) false w args)
      (Rows.dirtreeDiffersSpec.post enc Tryz.prog Tryz.f10 false true false false) := by
  refine handed_shaped (C := Tryz.checked) (X := fun w _ => laidMetH Tryz.prog Rows.dirtreeDiffersRow.laid w) (fun _ _ _ hh h => h.of_heap hh) own started (by kernel_rfl) Tryz.func10
    (ChangeSpec.witness_shaped (enc := enc) (C := Tryz.checked) (os := os) (X := fun w _ => laidMetH Tryz.prog Rows.dirtreeDiffersRow.laid w) false (World.laidAll Tryz.prog os Rows.dirtreeDiffersRow.laid) #[.slice none 0 0, .slice none 0 0] 8 (World.laidAll_os _ _ _)
      (World.shaped_of_ZipB (by kernel_rfl) (by kernel_rfl)) (by kernel_rfl) (by kernel_rfl) (by kernel_rfl)
      (by rw [MakeChecks.laidMetH_plain _ _ _ (by kernel_rfl)]; exact laidMet_laidAll _ (by kernel_rfl) (by kernel_rfl))) ?_
  intro W base args ds gs before hval0 hW hsh hL
  have hval : ∀ (j : Nat) t v, Tryz.f10.params[j]? = some t → args[j]? = some v → Value.okWide Tryz.prog W .any base t v := hval0
  have hW' := hW
  obtain ⟨p, q, hA0, hV, rfl, _, _⟩ := hW
  have hA : DataW.TrodAll enc Tryz.prog W 0 (fun _ => true) true Tryz.f10.params.toList args.toList ds p := hA0
  rw [Tryz.params10] at hA hval
  obtain ⟨rfl, rfl⟩ := trodVars_none hV
  obtain ⟨v0, v1, d0, d1, p0, p1, rfl, rfl, rfl, h0, h1⟩ := trodAll_two hA
  obtain ⟨l, hl, hlw⟩ := ent_opens.arg Tryz.underlying22 (hval 0 _ v0 rfl rfl) h0
  obtain ⟨m, hm, hmw⟩ := ent_opens.arg Tryz.underlying22 (hval 1 _ v1 rfl rfl) h1
  refine (law_DirtreeDiffers (HeapI W) (glob_of_laid hL hsh) _ _ l m hl hm hlw hmw W (HeapI.ok W)).mono fun e W' ⟨he, hb⟩ => ?_
  subst he
  exact ⟨_, rfl, post_law laidOut rfl hW' (tb := 4) (by kernel_rfl) Tryz.underlying4 rfl (by kernel_rfl) hb⟩

theorem ddif_row : Rows.DirtreeDiffersSaid :=
  OpenClaim.holds_of_wide 10 Tryz.f10 rfl rfl rfl rfl rfl rfl rfl ⟨rfl, rfl, rfl, rfl, rfl⟩ rfl rfl rfl rfl rfl (by kernel_rfl) Tryz.func10 (by kernel_rfl)
    (of_decide_eq_true (by kernel_rfl)) (by unfold Func.isWrapper; first | (rw [if_pos (by decide +kernel)]; kernel_rfl) | (rw [if_neg (by decide +kernel)]; exact ⟨rfl, rfl⟩))
    (fun os started H enc _ => ddif_lifted os started H enc)
theorem ddif_card : Rows.DirtreeDiffersCardSaid :=
  Claim7.holds_tied_plain_at .later [] [.data, .data, .data, .data, .sentinel, .sentinel, .pinned] true (true, "eec0d5612baa64a3229f16033e416e2670cd7e7b277b87c34fefe3d96faa777a") true ddif_row (fun _ h => by cases h) (by kernel_rfl) (fun _ h => by cases h) dirtreeDiffers_row_tie rfl ⟨rfl, rfl⟩ (by kernel_rfl) rfl
    (fun f fn hf hfn => by
      obtain rfl : f = 10 := Option.some.inj ((show Tryz.prog.funcNamed "stele/stelelaw37.DirtreeDiffers" = some 10 by kernel_rfl).symm.trans hf) |>.symm
      obtain rfl : fn = Tryz.f10 := (Option.some.inj (Tryz.func10.symm.trans hfn)).symm
      exact ⟨by kernel_rfl, fun j t ht => by
        rw [Tryz.params10] at ht
        have hm : t ∈ [22, 22] := by simpa using Array.mem_of_getElem? ht
        have hall : (List.all [22, 22] fun u => !Tryz.prog.wantsStandIn u) = true := by kernel_rfl
        exact (show Tryz.prog.wantsStandIn t = false by simpa using List.all_eq_true.1 hall t hm)⟩)
    (by kernel_rfl)
#print axioms ddif_card
end Go.Proofs.YtcbmdghnlbieeaaGreatDoor
