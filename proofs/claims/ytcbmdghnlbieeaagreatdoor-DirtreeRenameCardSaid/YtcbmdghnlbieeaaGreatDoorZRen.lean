/-
  The laws of layer 37: DirtreeRename: its walk.
  For every tree and every name, the statement DirtreeRename returns true, and its arguments read as they did before. Conditions: those of the tied card alone (the listed package-level variables hold what the program lays).
-/
import Derived.Test.YtcbmdghnlbieeaaGreatDoorZT
import Derived.Test.YtcbmdghnlbieeaaGreatDoorZS
import Derived.Test.YtcbmdghnlbieeaaGreatDoorZJ
import Derived.Test.YtcbmdghnlbieeaaGreatDoorZM
namespace Go.Proofs.YtcbmdghnlbieeaaGreatDoor
open Go.RowKit

theorem okT_nil : OkT [] := (chkT_eq []).1 rfl
theorem name_of {name : Bytes} {m : List Ent} (hn : name ≠ []) (h : applyT [] (litE 2 name) = (m, 0)) : m = [litE 2 name] ∧ (∀ c ∈ name, c ≠ 47) ∧ OkT [litE 2 name] := by
  have hok := applyT_ok okT_nil h
  obtain ⟨hp, hm⟩ := applyT_iff.1 h
  have hm' : m = [litE 2 name] := by rw [hm]; rfl
  rw [hm'] at hok
  refine ⟨hm', ?_, hok⟩
  have hpe : pathErr name = 0 := (entErr_ok hp.ent).2.2.1
  have hup : dirErr [] (upP name) = 0 := hp.up (by show (2 : Int) ≤ 3; decide)
  have hu0 : upP name = [] := by
    unfold dirErr at hup
    by_cases k : upP name = []
    · exact k
    · rw [if_neg k, show getT [] (upP name) = none from rfl] at hup
      exact absurd hup (by decide)
  have hel := els_upP hpe
  rw [hu0] at hel
  have hel' : (els name).dropLast = [] := by rw [← hel]; rfl
  have hlen : (els name).length ≤ 1 := by
    have := congrArg List.length hel'
    rw [List.length_dropLast] at this
    simp at this
    omega
  match he : els name, hlen with
  | [], _ =>
    have := joinP_els name
    rw [he] at this
    exact absurd this.symm hn
  | [p], _ =>
    have := joinP_els name
    rw [he] at this
    have hcp := (pathErr_ok hpe).2.2 p (by rw [he]; simp)
    have hpn : p = name := this
    rw [← hpn]
    exact comp_noslash hcp
  | _ :: _ :: _, h => simp at h
theorem moved_digest {name : Bytes} (hn : name ≠ []) (h : ∀ c ∈ name, c ≠ 47) {t : List Ent} (ht : OkT t) (hs : ∀ x ∈ t, pathErr (shP name x.path) = 0) : digE (litE 2 name :: t.map (shE name)) name = (merkP sumP 10 t rootE, 0) := by
  have hg : getT (litE 2 name :: t.map (shE name)) name = some (litE 2 name) := by
    unfold getT
    rw [List.find?_cons]
    have : ((litE 2 name).path == name) = true := beq_self_eq_true name
    rw [this]
  have hp : ∀ x ∈ t, pathErr x.path = 0 ∧ x.path ≠ [] := fun x hx => by
    have h1 := entErr_ok (ht.ent x hx)
    have h2 := ht.kind x hx
    exact ⟨h1.2.2.1, fun k => by have := h1.2.2.2 k; omega⟩
  rw [digE, if_neg hn, hg]
  show (merkF sumP netP numP nameP 10 _ (litE 2 name), (0 : Int)) = _
  rw [merk_shift sumP netP numP nameP h hn hp hs (d0 := litE 2 name) rfl 10 (litE 2 name) rootE (by simp [shD, rootE, litE]) rfl rfl rfl rfl rfl]
theorem move_take {name : Bytes} (h : ∀ c ∈ name, c ≠ 47) (hn : name ≠ []) {t : List Ent} (ht : OkT t) (hl : t.length ≤ 60) {k : Nat} (hk : k < t.length) {x : Ent} (hx : t[k] = x) (hs : pathErr (shP name x.path) = 0) :
    applyT (litE 2 name :: (t.take k).map (shE name)) (shE name x) = (litE 2 name :: (t.take (k + 1)).map (shE name), 0) := by
  have e : t = t.take k ++ x :: t.drop (k + 1) := by
    conv => lhs; rw [← List.take_append_drop k t]
    rw [List.drop_eq_getElem_cons hk, hx]
  have ht' : OkT (t.take k ++ x :: t.drop (k + 1)) := e ▸ ht
  have hl' : (t.take k ++ x :: t.drop (k + 1)).length ≤ 60 := by rw [← e]; exact hl
  rw [List.take_succ_eq_append_getElem hk, hx]
  exact move_step h hn (d0 := litE 2 name) rfl rfl ht' hl' hs
theorem shE_wf {name : Bytes} {x : Ent} (h : x.Wf) (hp : (shP name x.path).length ≤ 9223372036854775807) : (shE name x).Wf := ⟨h.k0, h.k1, hp, h.attrs, h.target, h.s0, h.s1, h.digest, h.exts⟩

/-- The loop's tree. -/
structure MovT (I J : IH) (name : Bytes) (t : List Ent) (k : Nat) (v : Value) (w : World) : Prop where
  rd : RdS tEnt J v (litE 2 name :: (t.take k).map (shE name))
  keep : ∀ b c, I b = some c → J b = some c
  ok : Ok J w
  tree : OkT (litE 2 name :: (t.take k).map (shE name))
  paths : ∀ x ∈ t.take k, pathErr (shP name x.path) = 0

set_option maxRecDepth 100000 in
set_option maxHeartbeats 4000000 in
theorem law_DirtreeRename (I : IH) (hI : Glob I) (v : Value) (t : List Ent) (hv : RdS tEnt I v t) (ht : AllE t) (name : Bytes) (hnl : name.length ≤ 9223372036854775807) (w : World) (hw : Ok I w) :
    Calls Tryz.prog 9 #[v, S name] w fun r w' => r = .returned (.bool true) ∧ Below w.heap.size w w' := by
  have Hal := Lib.hid (fun w hw => law_alive37 I hI w hw)
  have Hri := Lib.hid (fun w hw => ref37_Right I _ t hv ht w hw)
  have HI := Lib.hid hI
  have Hwf := Lib.hid ht
  obtain ⟨ao, cap, rfl, hcap, hcm, _⟩ := id hv
  have Hv := Lib.hid hv
  clear hv hI ht
  go_enter Tryz.func9, Tryz.ntmps9
  go_wp2_with fail
  refine (Hal.out _ hw).mono ?_
  rintro e1 w1 ⟨rfl, hb1⟩
  have hok1 : Ok I w1 := hw.below (Nat.le_refl _) hb1
  rcases right_cases t with hr | ⟨hr, hl, hok, hg⟩
  · rw [hr] at Hri
    go_wp2_with fail
    refine (Hri.out _ hok1).mono ?_
    rintro e2 w2 ⟨rfl, hb2⟩
    go_wp2
    go_ret
    exact ⟨rfl, hb1.trans (hb2.mono hb1.size)⟩
  rw [hr] at Hri
  have Hok := Lib.hid hok
  have Hg := Lib.hid hg
  clear hok hg hr
  by_cases hp : 32 < name.length
  · have hd : decide ((32 : Int) < name.length) = true := decide_eq_true (by omega)
    go_wp2_with fail
    refine (Hri.out _ hok1).mono ?_
    rintro e2 w2 ⟨rfl, hb2⟩
    go_wp2
    go_ret
    exact ⟨rfl, hb1.trans (hb2.mono hb1.size)⟩
  have hd : decide ((32 : Int) < name.length) = false := decide_eq_false (by omega)
  go_wp2_with fail
  refine (Hri.out _ hok1).mono ?_
  rintro e2 w2 ⟨rfl, hb2⟩
  have hok2 : Ok I w2 := hok1.below (Nat.le_refl _) hb2
  have hb2' := hb1.trans (hb2.mono hb1.size)
  have hs2 := hb2'.size
  clear hb1 hb2
  obtain ⟨m, n, hm⟩ : ∃ m n, applyT [] (litE 2 name) = (m, n) := ⟨_, _, rfl⟩
  have Hm := Lib.hid hm
  clear hm
  go_wp2_with fail
  refine (dt_Apply_at I HI.out _ [] (RdS.nil _ _) (fun _ h => (by cases h)) List.Pairwise.nil (by decide) (litE 2 name) nilV nilV (RdS.nil _ _) (RdS.nil _ _) (litE_wf (by decide) (by decide) (by omega)) (by show name.length ≤ _; omega) (Nat.zero_le _) Hm.out _ hok2).mono ?_
  rintro e3 w3 ⟨v3, I3, rfl, hb3, hx3, hok3, hr3⟩
  have Hk := Lib.hid (hx3.keep hok2 (Nat.le_refl _))
  obtain ⟨ao3, cap3, rfl, _, _, _⟩ := id hr3
  have Hr3 := Lib.hid hr3
  have hb3' := hb2'.trans (hb3.mono hs2)
  have hs3 := hb3'.size
  clear hb3 hb2' hr3 hx3
  by_cases hn0 : n = 0
  case neg =>
    have hn1 : (n != 0) = true := by simpa using hn0
    clear hn0
    go_wp2
    go_ret
    exact ⟨rfl, hb3'⟩
  subst hn0
  by_cases hne : name = []
  · obtain ⟨p1, p2, p3, p4⟩ := eq_emp hne
    clear hne
    go_wp2
    go_ret
    exact ⟨rfl, hb3'⟩
  obtain ⟨p1, p2, p3, p4⟩ := ne_emp hne
  have Hne := Lib.hid hne
  obtain ⟨hm1, hm2, hm3⟩ := name_of hne Hm.out
  subst hm1
  have Hns := Lib.hid hm2
  have HM0 := Lib.hid (show MovT I I3 name t 0 (.slice ao3 [litE 2 name].length cap3) w3 from ⟨Hr3.out, Hk.out, hok3, hm3, fun x hx => absurd hx (by simp)⟩)
  have Hb3 := Lib.hid hb3'
  clear hm2 hm3 hne hb3' Hr3 Hm hok3 Hk
  go_wp2_with fail
  go_loopw [5, 37] (fun s5 s37 wr => ∃ (k : Nat) (J : IH), k ≤ t.length ∧ s37 = .int .i64 k ∧ MovT I J name t k s5 wr ∧ Below w.heap.size w wr) (fun _ i _ => t.length - (intOf i).toNat)
  case atStart => exact ⟨0, I3, Nat.zero_le _, rfl, HM0.out, Hb3.out⟩
  case round =>
    clear HM0 Hb3
    obtain ⟨k, J, hk, rfl, hM, hb⟩ := hrel
    obtain ⟨hrd, hkp, hwr, htr, hpa⟩ := hM
    obtain ⟨aq, capq, rfl, _, _, _⟩ := id hrd
    have HJ := Lib.hid (HI.out.mono hkp)
    have HvJ := Lib.hid (Hv.out.mono hkp)
    have Hkp := Lib.hid hkp
    have Hpa := Lib.hid hpa
    have Hrd := Lib.hid hrd
    have Htr := Lib.hid htr
    have hlm : (litE 2 name :: (t.take k).map (shE name)).length ≤ 100 := by simp; omega
    clear hkp hpa hrd htr
    by_cases hlt : k < t.length
    · obtain ⟨x, vxa, vxx, bb, off, cap', hlx, hvv, ⟨d0, d1, d2, d3, d4, d5, d6⟩, h1, h2⟩ := entAt HvJ.out hwr k hlt
      cases hvv
      obtain ⟨xa, xc, rfl, _, _, _⟩ := id h1
      obtain ⟨xx, xd, rfl, _, _, _⟩ := id h2
      have Hxm := Lib.hid (show x ∈ t by rw [← hlx]; exact List.getElem_mem hlt)
      have hxl := great_no (Hg.out x Hxm.out)
      have Hstep := Lib.hid (fun hs => move_take Hns.out Hne.out Hok.out hl hlt hlx hs)
      have Htk := Lib.hid (show t.take (k + 1) = t.take k ++ [x] by rw [List.take_succ_eq_append_getElem hlt, hlx])
      have hsl : (shP name x.path).length ≤ 400 := by simp [shP]; omega
      have Hck := Lib.hid (fun w hw => pn_Check J HJ.out (shP name x.path) (by omega) w hw)
      have Hx1 := Lib.hid h1
      have Hx2 := Lib.hid h2
      clear hlx h1 h2
      generalize (litE 2 name :: (t.take k).map (shE name)) = M at Hrd Htr Hstep hlm ⊢
      go_wp2_with fail
      refine (Hck.out _ (hwr.alloc _)).mono ?_
      rintro e4 w4 ⟨rfl, hb4⟩
      have HX4 := Lib.hid (entB (e := shE name x) rfl hb4)
      have hok4 : Ok J w4 := (hwr.alloc _).below (Nat.le_refl _) hb4
      have hb4' := (hb.alloc hb.size (.cells #[.int .i64 (shE name x).kind, S (shE name x).path, .slice xa (shE name x).attrs.length xc, S (shE name x).target, .int .i64 (shE name x).size, S (shE name x).digest, .slice xx (shE name x).exts.length xd] 26)).trans (hb4.mono (by have := hb.size; simp; omega))
      clear hb4 hb d0 d1 d2 d3 d4 d5 d6 Hck
      by_cases hq : pathErr (shP name x.path) = 0
      case neg =>
        have hq1 : (pathErr (shP name x.path) != 0) = true := by simpa using hq
        generalize pathErr (shP name x.path) = q at hq1 ⊢
        clear hq
        go_wp2
        go_ret
        exact ⟨rfl, hb4'⟩
      have hst := Hstep.out hq
      have Hst := Lib.hid hst
      have Hq := Lib.hid hq
      have Hap := Lib.hid (dt_Apply_at J HJ.out _ _ Hrd.out (dgT_of Htr.out (by omega)).sml Htr.out.srt (by omega) (shE name x) _ _ Hx1.out Hx2.out (shE_wf (Hwf.out x Hxm.out) (by omega)) (by show (shP name x.path).length ≤ _; omega) (by show x.target.length ≤ _; omega) hst w4 hok4)
      have Hnew := Lib.hid (applyT_ok Htr.out hst)
      rw [hq]
      obtain ⟨c0, c1, c2, c3, c4, c5, c6⟩ := HX4.out
      clear hst hq
      go_wp2_with fail
      refine Hap.out.mono ?_
      rintro e5 w5 ⟨v5, J5, rfl, hb5, hx5, hok5, hr5⟩
      have hkeep := hx5.keep hok4 (Nat.le_refl _)
      have HM5 := Lib.hid (show MovT I J5 name t (k + 1) v5 w5 from ⟨hr5, fun b c h => hkeep b c (Hkp.out b c h), hok5, Hnew.out, fun z hz => by
        rw [Htk.out] at hz
        rcases List.mem_append.1 hz with h | h
        · exact Hpa.out z h
        · rw [List.mem_singleton.1 h]; exact Hq.out⟩)
      have hb5' := hb4'.trans (hb5.mono hb4'.size)
      clear hb5 hb4' hr5 hx5 c0 c1 c2 c3 c4 c5 c6 hkeep hlm
      go_wp2
      go_roundw
      case rel => exact ⟨k + 1, J5, by omega, by go_num, HM5.out, hb5'⟩
      case measure => simp [intOf]; omega
    · have hall : t.take k = t := List.take_of_length_le (by omega)
      have hpaths := Hpa.out
      rw [hall] at hpaths
      have hmd := moved_digest Hne.out Hns.out Hok.out hpaths
      have hrd := Hrd.out
      have htr := Htr.out
      rw [hall] at hrd htr ⊢
      have hML : (litE 2 name :: t.map (shE name)).length = t.length + 1 := by simp
      have Hd1 := Lib.hid (fun w hw => dt_Digest J HJ.out _ t HvJ.out (dgT_of Hok.out (by omega)) [] w hw)
      have Hd2 := Lib.hid (fun w hw => dt_Digest J HJ.out _ _ hrd (dgT_of htr (by rw [hML]; omega)) name w hw)
      rw [digE_root t rfl] at Hd1
      rw [hmd] at Hd2
      generalize merkP sumP 10 t rootE = s at Hd1 Hd2
      generalize (litE 2 name :: t.map (shE name)) = M at Hd2 hML ⊢
      have qs : (s == s) = true := beq_self_eq_true s
      have qw : IntKind.i64.wrap ((t.length : Int) + 1) = (t.length : Int) + 1 := IntWalk.i64_in _ (by omega)
      have qe : ((t.length : Int) + 1 == (t.length : Int) + 1) = true := beq_self_eq_true _
      clear hpaths hmd hrd htr hall Hrd Htr Hpa hlm
      rw [hML] at Hd2 ⊢
      clear hML
      go_wp2_with fail
      refine (Hd1.out _ hwr).mono ?_
      rintro e4 w4 ⟨rfl, hb4⟩
      have hok4 : Ok J w4 := hwr.below (Nat.le_refl _) hb4
      have hb4' := hb.trans (hb4.mono hb.size)
      clear hb4
      go_wp2_with fail
      refine (Hd2.out _ hok4).mono ?_
      rintro e5 w5 ⟨rfl, hb5⟩
      go_wp2
      go_ret
      exact ⟨rfl, hb4'.trans (hb5.mono hb4'.size)⟩
end Go.Proofs.YtcbmdghnlbieeaaGreatDoor
namespace Go.Proofs.YtcbmdghnlbieeaaGreatDoor
open Go.ChangeShapes Go.WideShapes Go.ChangeAt Go.RowKit

theorem str_lenI {H : Type} {enc : TypeId × Value → H} {P : Program} {w : World} {r : Reach} {b0 base : Nat} {spare : Nat → Bool} {held : Bool} {t : TypeId} {v : Value} {d : DataW H} {ps : List MemPlace} (ht : P.underlying t = some .string) (hv : Value.okWide P w r b0 t v) (h : DataW.Trod enc P w base spare held t v d ps) : ∃ s : Bytes, v = S s ∧ s.length ≤ 9223372036854775807 := by
  obtain ⟨s, rfl⟩ := okWide_string ht hv
  obtain ⟨fuel, hf⟩ := h
  obtain ⟨s', e0, _, w0⟩ := DataW.trod_string ht hf
  have e1 : s = s' := by simpa [Value.cells] using e0
  subst e1
  have k4 : maxLen = 9223372036854775807 := rfl
  have hsz : s.data.toList.length = s.size := Array.length_toList
  exact ⟨s.data.toList, by rw [S, mk_eta], by omega⟩

set_option maxRecDepth 100000 in
theorem dren_lifted (os : Os) (started : os.Started) (H : Type) (enc : TypeId × Value → H) :
    ReturnsInHanded {} Tryz.checked os 9 .any (fun w args => (Rows.dirtreeRenameSpec.pre enc Tryz.prog Tryz.f9 Rows.dirtreeRenameRow.domain false w args ∧ laidMetH Tryz.prog Rows.dirtreeRenameRow.laid w) ∧ sizedMet enc Tryz.prog Tryz.f9 (OpenSpec.ofChange Rows.dirtreeRenameSpec) false w args)
      (Rows.dirtreeRenameSpec.post enc Tryz.prog Tryz.f9 false true false false) := by
  refine handed_shaped (C := Tryz.checked) (X := fun w _ => laidMetH Tryz.prog Rows.dirtreeRenameRow.laid w) (fun _ _ _ hh h => h.of_heap hh) own started (by kernel_rfl) Tryz.func9
    (ChangeSpec.witness_shaped (enc := enc) (C := Tryz.checked) (os := os) (X := fun w _ => laidMetH Tryz.prog Rows.dirtreeRenameRow.laid w) false (World.laidAll Tryz.prog os Rows.dirtreeRenameRow.laid) #[.slice none 0 0, .string ⟨#[]⟩] 8 (World.laidAll_os _ _ _)
      (World.shaped_of_ZipB (by kernel_rfl) (by kernel_rfl)) (by kernel_rfl) (by kernel_rfl) (by kernel_rfl)
      (by rw [MakeChecks.laidMetH_plain _ _ _ (by kernel_rfl)]; exact laidMet_laidAll _ (by kernel_rfl) (by kernel_rfl))) ?_
  intro W base args ds gs before hval0 hW hsh hL
  have hval : ∀ (j : Nat) t v, Tryz.f9.params[j]? = some t → args[j]? = some v → Value.okWide Tryz.prog W .any base t v := hval0
  have hW' := hW
  obtain ⟨p, q, hA0, hV, rfl, _, _⟩ := hW
  have hA : DataW.TrodAll enc Tryz.prog W 0 (fun _ => true) true Tryz.f9.params.toList args.toList ds p := hA0
  rw [Tryz.params9] at hA hval
  obtain ⟨rfl, rfl⟩ := trodVars_none hV
  obtain ⟨v0, v1, d0, d1, p0, p1, rfl, rfl, rfl, h0, h1⟩ := trodAll_two hA
  obtain ⟨l, hl, hlw⟩ := ent_opens.arg Tryz.underlying22 (hval 0 _ v0 rfl rfl) h0
  obtain ⟨s, rfl, hs⟩ := str_lenI Tryz.underlying9 (hval 1 _ v1 rfl rfl) h1
  refine (law_DirtreeRename (HeapI W) (glob_of_laid hL hsh) _ l hl hlw s hs W (HeapI.ok W)).mono fun e W' ⟨he, hb⟩ => ?_
  subst he
  exact ⟨_, rfl, post_law laidOut rfl hW' (tb := 4) (by kernel_rfl) Tryz.underlying4 rfl (by kernel_rfl) hb⟩

theorem dren_row : Rows.DirtreeRenameSaid :=
  OpenClaim.holds_of_wide 9 Tryz.f9 rfl rfl rfl rfl rfl rfl rfl ⟨rfl, rfl, rfl, rfl, rfl⟩ rfl rfl rfl rfl rfl (by kernel_rfl) Tryz.func9 (by kernel_rfl)
    (of_decide_eq_true (by kernel_rfl)) (by unfold Func.isWrapper; first | (rw [if_pos (by decide +kernel)]; kernel_rfl) | (rw [if_neg (by decide +kernel)]; exact ⟨rfl, rfl⟩))
    (fun os started H enc _ => dren_lifted os started H enc)
theorem dren_card : Rows.DirtreeRenameCardSaid :=
  Claim7.holds_tied_plain_at .later [] [.data, .data, .data, .data, .sentinel, .sentinel, .pinned] true (true, "eec0d5612baa64a3229f16033e416e2670cd7e7b277b87c34fefe3d96faa777a") true dren_row (fun _ h => by cases h) (by kernel_rfl) (fun _ h => by cases h) dirtreeRename_row_tie rfl ⟨rfl, rfl⟩ (by kernel_rfl) rfl
    (fun f fn hf hfn => by
      obtain rfl : f = 9 := Option.some.inj ((show Tryz.prog.funcNamed "stele/stelelaw37.DirtreeRename" = some 9 by kernel_rfl).symm.trans hf) |>.symm
      obtain rfl : fn = Tryz.f9 := (Option.some.inj (Tryz.func9.symm.trans hfn)).symm
      exact ⟨by kernel_rfl, fun j t ht => by
        rw [Tryz.params9] at ht
        have hm : t ∈ [22, 9] := by simpa using Array.mem_of_getElem? ht
        have hall : (List.all [22, 9] fun u => !Tryz.prog.wantsStandIn u) = true := by kernel_rfl
        exact (show Tryz.prog.wantsStandIn t = false by simpa using List.all_eq_true.1 hall t hm)⟩)
    (by kernel_rfl)
#print axioms dren_card
end Go.Proofs.YtcbmdghnlbieeaaGreatDoor
