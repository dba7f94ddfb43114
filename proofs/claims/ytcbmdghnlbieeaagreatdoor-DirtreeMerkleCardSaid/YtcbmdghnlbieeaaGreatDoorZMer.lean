/-
  The laws of layer 37: DirtreeMerkle, DirtreeLocal: their walks.
  For every two trees, the statement DirtreeMerkle returns true, and its arguments read as they did before. Conditions: those of the tied card alone (the listed package-level variables hold what the program lays).
-/
import Derived.Test.YtcbmdghnlbieeaaGreatDoorZS
import Derived.Test.YtcbmdghnlbieeaaGreatDoorZN
import Derived.Test.YtcbmdghnlbieeaaGreatDoorZJ
import Derived.Test.YtcbmdghnlbieeaaGreatDoorZM
namespace Go.Proofs.YtcbmdghnlbieeaaGreatDoor
open Go.RowKit

theorem digE_nil (t : List Ent) : digE t [] = (merkP sumP 10 t rootE, 0) := digE_root t rfl
theorem root_same {a b : List Ent} (h : diffM a b = []) : merkP sumP 10 a rootE = merkP sumP 10 b rootE :=
  merk_same sumP netP numP nameP (diff_all2 a b h) 10 rootE rootE ⟨rfl, by decide⟩

set_option maxRecDepth 100000 in
set_option maxHeartbeats 4000000 in
theorem law_DirtreeMerkle (I : IH) (hI : Glob I) (v1 v2 : Value) (a b : List Ent) (hv1 : RdS tEnt I v1 a) (hv2 : RdS tEnt I v2 b) (hta : AllE a) (htb : AllE b) (w : World) (hw : Ok I w) :
    Calls Tryz.prog 11 #[v1, v2] w fun r w' => r = .returned (.bool true) ∧ Below w.heap.size w w' := by
  have Hal := Lib.hid (fun w hw => law_alive37 I hI w hw)
  have Hr1 := Lib.hid (fun w hw => ref37_Right I _ a hv1 hta w hw)
  have Hr2 := Lib.hid (fun w hw => ref37_Right I _ b hv2 htb w hw)
  have HI := Lib.hid hI
  obtain ⟨ao, cap, rfl, hcap, hcm, _⟩ := id hv1
  obtain ⟨ao2, cap2, rfl, hcap2, hcm2, _⟩ := id hv2
  have Hv1 := Lib.hid hv1
  have Hv2 := Lib.hid hv2
  clear hv1 hv2 hI
  go_enter Tryz.func11, Tryz.ntmps11
  go_wp2_with fail
  refine (Hal.out _ hw).mono ?_
  rintro e1 w1 ⟨rfl, hb1⟩
  have hok1 : Ok I w1 := hw.below (Nat.le_refl _) hb1
  rcases right_cases a with hr | ⟨hr, hl, hok, hg⟩
  · rw [hr] at Hr1
    go_wp2_with fail
    refine (Hr1.out _ hok1).mono ?_
    rintro e2 w2 ⟨rfl, hb2⟩
    go_wp2
    go_ret
    exact ⟨rfl, hb1.trans (hb2.mono hb1.size)⟩
  rw [hr] at Hr1
  have Hok := Lib.hid hok
  have Hg := Lib.hid hg
  clear hok hg hr
  go_wp2_with fail
  refine (Hr1.out _ hok1).mono ?_
  rintro e2 w2 ⟨rfl, hb2⟩
  have hok2 : Ok I w2 := hok1.below (Nat.le_refl _) hb2
  have hb2' := hb1.trans (hb2.mono hb1.size)
  clear hb1 hb2
  rcases right_cases b with hr | ⟨hr, hl2, hok, hg⟩
  · rw [hr] at Hr2
    go_wp2_with fail
    refine (Hr2.out _ hok2).mono ?_
    rintro e3 w3 ⟨rfl, hb3⟩
    go_wp2
    go_ret
    exact ⟨rfl, hb2'.trans (hb3.mono hb2'.size)⟩
  rw [hr] at Hr2
  have Hok2 := Lib.hid hok
  have Hg2 := Lib.hid hg
  clear hok hg hr
  have HA := Lib.hid (dgT_of Hok.out (by omega))
  have HB := Lib.hid (dgT_of Hok2.out (by omega))
  have Hd1 := Lib.hid (fun w hw => dt_Digest I HI.out _ a Hv1.out HA.out [] w hw)
  have Hd2 := Lib.hid (fun w hw => dt_Digest I HI.out _ b Hv2.out HB.out [] w hw)
  have He1 := Lib.hid (fun J hI hv w hw => ref37_Digest J hI (.slice ao a.length cap) a hv HA.out [] w hw)
  have He2 := Lib.hid (fun J hI hv w hw => ref37_Digest J hI (.slice ao2 b.length cap2) b hv HB.out [] w hw)
  rw [digE_nil] at Hd1 Hd2 He1 He2
  have h32 : (merkP sumP 10 a rootE).length = 32 := merkP_full 9 a rootE
  have Hsame := Lib.hid (fun h => root_same (a := a) (b := b) h)
  generalize merkP sumP 10 a rootE = x at Hd1 He1 h32 Hsame
  generalize merkP sumP 10 b rootE = y at Hd2 He2 Hsame
  have h32' : ((x.length : Int) != 32) = false := by rw [h32]; rfl
  have H32 := Lib.hid h32
  clear h32
  go_wp2_with fail
  refine (Hr2.out _ hok2).mono ?_
  rintro e3 w3 ⟨rfl, hb3⟩
  have hok3 : Ok I w3 := hok2.below (Nat.le_refl _) hb3
  have hb3' := hb2'.trans (hb3.mono hb2'.size)
  clear hb2' hb3
  go_wp2_with fail
  refine (Hd1.out _ hok3).mono ?_
  rintro e4 w4 ⟨rfl, hb4⟩
  have hok4 : Ok I w4 := hok3.below (Nat.le_refl _) hb4
  have hb4' := hb3'.trans (hb4.mono hb3'.size)
  clear hb3' hb4
  go_wp2_with fail
  refine (Hd2.out _ hok4).mono ?_
  rintro e5 w5 ⟨rfl, hb5⟩
  have hok5 : Ok I w5 := hok4.below (Nat.le_refl _) hb5
  have hb5' := hb4'.trans (hb5.mono hb4'.size)
  have hs5 := hb5'.size
  clear hb4' hb5
  go_wp2_with fail
  refine (dt_Diff I HI.out _ _ a b Hv1.out Hv2.out (sml_of Hg.out) (sml_of Hg2.out) (by omega) (by omega) _ hok5).mono ?_
  rintro e6 w6 ⟨l, hsl, v6, I6, rfl, hb6, hx6, hok6, hr6⟩
  have hl6 : l = diffM a b := diffU_sorted Hok.out.srt Hok2.out.srt hsl.1 hsl.2
  have Hk := Lib.hid (hx6.keep hok5 (Nat.le_refl _))
  obtain ⟨ao6, cap6, rfl, _, _, _⟩ := id hr6
  have hb6' := hb5'.trans (hb6.mono hs5)
  clear hb6 hb5' hr6 hx6 hsl
  by_cases h0 : l = []
  · have hxy : x = y := Hsame.out (by rw [← hl6, h0])
    clear hl6
    subst hxy h0
    have q : (x == x) = true := beq_self_eq_true x
    go_wp2
    go_ret
    exact ⟨rfl, hb6'⟩
  · have hln : ((l.length : Int) == 0) = false := by
      have : l.length ≠ 0 := fun e => h0 (List.eq_nil_of_length_eq_zero e)
      simpa using h0
    clear h0 hl6
    go_wp2_with fail
    refine (He1.out I6 (HI.out.mono Hk.out) (Hv1.out.mono Hk.out) _ hok6).mono ?_
    rintro e7 w7 ⟨rfl, hb7⟩
    have hok7 : Ok I6 w7 := hok6.below (Nat.le_refl _) hb7
    have hb7' := hb6'.trans (hb7.mono hb6'.size)
    clear hb7 hb6'
    go_wp2_with fail
    refine (He2.out I6 (HI.out.mono Hk.out) (Hv2.out.mono Hk.out) _ hok7).mono ?_
    rintro e8 w8 ⟨rfl, hb8⟩
    have hb8' := hb7'.trans (hb8.mono hb7'.size)
    by_cases hxy : x = y
    · subst hxy
      have q1 : (x == x) = true := beq_self_eq_true x
      have q2 : (x != x) = false := by simp
      go_wp2
      go_ret
      exact ⟨rfl, hb8'⟩
    · have q1 : (x == y) = false := by simpa using hxy
      have q2 : (x != y) = true := by simpa using hxy
      clear hxy
      go_wp2
      go_ret
      exact ⟨rfl, hb8'⟩
end Go.Proofs.YtcbmdghnlbieeaaGreatDoor
namespace Go.Proofs.YtcbmdghnlbieeaaGreatDoor
open Go.ChangeShapes Go.WideShapes Go.ChangeAt Go.RowKit

set_option maxRecDepth 100000 in
theorem dmer_lifted (os : Os) (started : os.Started) (H : Type) (enc : TypeId × Value → H) :
    ReturnsInHanded {} Tryz.checked os 11 .any (fun w args => (Rows.dirtreeMerkleSpec.pre enc Tryz.prog Tryz.f11 Rows.dirtreeMerkleRow.domain false w args ∧ laidMetH Tryz.prog Rows.dirtreeMerkleRow.laid w) ∧ sizedMet enc Tryz.prog Tryz.f11 (OpenSpec.ofChange Rows.dirtreeMerkleSpec) false w args)
      (Rows.dirtreeMerkleSpec.post enc Tryz.prog Tryz.f11 false true false false) := by
  refine handed_shaped (C := Tryz.checked) (X := fun w _ => laidMetH Tryz.prog Rows.dirtreeMerkleRow.laid w) (fun _ _ _ hh h => h.of_heap hh) own started (by kernel_rfl) Tryz.func11
    (ChangeSpec.witness_shaped (enc := enc) (C := Tryz.checked) (os := os) (X := fun w _ => laidMetH Tryz.prog Rows.dirtreeMerkleRow.laid w) false (World.laidAll Tryz.prog os Rows.dirtreeMerkleRow.laid) #[.slice none 0 0, .slice none 0 0] 8 (World.laidAll_os _ _ _)
      (World.shaped_of_ZipB (by kernel_rfl) (by kernel_rfl)) (by kernel_rfl) (by kernel_rfl) (by kernel_rfl)
      (by rw [MakeChecks.laidMetH_plain _ _ _ (by kernel_rfl)]; exact laidMet_laidAll _ (by kernel_rfl) (by kernel_rfl))) ?_
  intro W base args ds gs before hval0 hW hsh hL
  have hval : ∀ (j : Nat) t v, Tryz.f11.params[j]? = some t → args[j]? = some v → Value.okWide Tryz.prog W .any base t v := hval0
  have hW' := hW
  obtain ⟨p, q, hA0, hV, rfl, _, _⟩ := hW
  have hA : DataW.TrodAll enc Tryz.prog W 0 (fun _ => true) true Tryz.f11.params.toList args.toList ds p := hA0
  rw [Tryz.params11] at hA hval
  obtain ⟨rfl, rfl⟩ := trodVars_none hV
  obtain ⟨v0, v1, d0, d1, p0, p1, rfl, rfl, rfl, h0, h1⟩ := trodAll_two hA
  obtain ⟨l, hl, hlw⟩ := ent_opens.arg Tryz.underlying22 (hval 0 _ v0 rfl rfl) h0
  obtain ⟨m, hm, hmw⟩ := ent_opens.arg Tryz.underlying22 (hval 1 _ v1 rfl rfl) h1
  refine (law_DirtreeMerkle (HeapI W) (glob_of_laid hL hsh) _ _ l m hl hm hlw hmw W (HeapI.ok W)).mono fun e W' ⟨he, hb⟩ => ?_
  subst he
  exact ⟨_, rfl, post_law laidOut rfl hW' (tb := 4) (by kernel_rfl) Tryz.underlying4 rfl (by kernel_rfl) hb⟩

theorem dmer_row : Rows.DirtreeMerkleSaid :=
  OpenClaim.holds_of_wide 11 Tryz.f11 rfl rfl rfl rfl rfl rfl rfl ⟨rfl, rfl, rfl, rfl, rfl⟩ rfl rfl rfl rfl rfl (by kernel_rfl) Tryz.func11 (by kernel_rfl)
    (of_decide_eq_true (by kernel_rfl)) (by unfold Func.isWrapper; first | (rw [if_pos (by decide +kernel)]; kernel_rfl) | (rw [if_neg (by decide +kernel)]; exact ⟨rfl, rfl⟩))
    (fun os started H enc _ => dmer_lifted os started H enc)
theorem dmer_card : Rows.DirtreeMerkleCardSaid :=
  Claim7.holds_tied_plain_at .later [] [.data, .data, .data, .data, .sentinel, .sentinel, .pinned] true (true, "eec0d5612baa64a3229f16033e416e2670cd7e7b277b87c34fefe3d96faa777a") true dmer_row (fun _ h => by cases h) (by kernel_rfl) (fun _ h => by cases h) dirtreeMerkle_row_tie rfl ⟨rfl, rfl⟩ (by kernel_rfl) rfl
    (fun f fn hf hfn => by
      obtain rfl : f = 11 := Option.some.inj ((show Tryz.prog.funcNamed "stele/stelelaw37.DirtreeMerkle" = some 11 by kernel_rfl).symm.trans hf) |>.symm
      obtain rfl : fn = Tryz.f11 := (Option.some.inj (Tryz.func11.symm.trans hfn)).symm
      exact ⟨by kernel_rfl, fun j t ht => by
        rw [Tryz.params11] at ht
        have hm : t ∈ [22, 22] := by simpa using Array.mem_of_getElem? ht
        have hall : (List.all [22, 22] fun u => !Tryz.prog.wantsStandIn u) = true := by kernel_rfl
        exact (show Tryz.prog.wantsStandIn t = false by simpa using List.all_eq_true.1 hall t hm)⟩)
    (by kernel_rfl)
#print axioms dmer_card
end Go.Proofs.YtcbmdghnlbieeaaGreatDoor
