/-
  The laws of layer 37: DirtreeLocal: its walk.
  For every tree and every entry, the statement DirtreeLocal returns true, and its arguments read as they did before. Conditions: those of the tied card alone (the listed package-level variables hold what the program lays).
-/
import Derived.Test.YtcbmdghnlbieeaaGreatDoorZT
import Derived.Test.YtcbmdghnlbieeaaGreatDoorZS
import Derived.Test.YtcbmdghnlbieeaaGreatDoorZM
namespace Go.Proofs.YtcbmdghnlbieeaaGreatDoor
open Go.RowKit

theorem apply_err {t a : List Ent} {e : Ent} {n : Int} (h : applyT t e = (a, n)) (hn : n ≠ 0) : a = [] := by
  unfold applyT at h
  repeat' split at h
  all_goals
    obtain ⟨rfl, rfl⟩ := Prod.mk.inj h
    first
      | rfl
      | exact absurd rfl hn
theorem no_prefix {p d : Bytes} (hp : pathErr p = 0) (hd : pathErr d = 0) (h : under p d = false) : ¬ els d <+: els p := by
  intro k
  unfold under at h
  rw [decide_eq_true hp, decide_eq_true hd, List.isPrefixOf_iff_prefix.2 k] at h
  exact absurd h (by decide)
theorem local_digest {t x : List Ent} {e y : Ent} (ht : OkT t) (ha : applyT t e = (x, 0)) (hy : y ∈ t) (h1 : under y.path e.path = false) (h2 : under e.path y.path = false) :
    digE t y.path = (merkP sumP 10 t y, 0) ∧ digE x y.path = (merkP sumP 10 t y, 0) := by
  have hye := entErr_ok (ht.ent y hy)
  have hyk := ht.kind y hy
  have hy0 : y.path ≠ [] := fun k => by have := hye.2.2.2 k; omega
  obtain ⟨hpre, hx⟩ := applyT_iff.1 ha
  have hee := (entErr_ok hpre.ent).2.2.1
  have n1 := no_prefix hye.2.2.1 hee h1
  have n2 := no_prefix hee hye.2.2.1 h2
  have hne : y.path ≠ e.path := fun k => n1 (by rw [k]; exact List.prefix_refl _)
  obtain ⟨z, hz, hzy⟩ := inv_stays ht ha hy (fun k => by rw [h1] at k; exact absurd k.2 (by simp))
  rw [hzy hne] at hz
  refine ⟨?_, ?_⟩
  · rw [digE, if_neg hy0, getT_mem ht.srt hy]
  · rw [digE, if_neg hy0, hz]
    show (merkF sumP netP numP nameP 10 x y, (0 : Int)) = _
    rw [hx, merk_local sumP netP numP nameP ht 10 y n1 n2]

set_option maxRecDepth 100000 in
set_option maxHeartbeats 4000000 in
theorem law_DirtreeLocal (I : IH) (hI : Glob I) (v : Value) (t : List Ent) (hv : RdS tEnt I v t) (ht : AllE t) (e : Ent) (va vx : Value) (hva : RdS tAt I va e.attrs) (hvx : RdS tXt I vx e.exts) (hwf : e.Wf) (w : World) (hw : Ok I w) :
    Calls Tryz.prog 8 #[v, entV e va vx] w fun r w' => r = .returned (.bool true) ∧ Below w.heap.size w w' := by
  have Hal := Lib.hid (fun w hw => law_alive37 I hI w hw)
  have Hri := Lib.hid (fun w hw => ref37_Right I _ t hv ht w hw)
  have Hsm := Lib.hid (fun w hw => law_small I e va vx hva hvx hwf w hw)
  have HI := Lib.hid hI
  obtain ⟨ao, cap, rfl, hcap, hcm, _⟩ := id hv
  obtain ⟨aa, ca, rfl, _, _, _⟩ := id hva
  obtain ⟨ax, cx, rfl, _, _, _⟩ := id hvx
  have Hv := Lib.hid hv
  have Hva := Lib.hid hva
  have Hvx := Lib.hid hvx
  clear hv hva hvx hI
  go_enter Tryz.func8, Tryz.ntmps8
  go_wp2_with fail
  refine (Hal.out _ (hw.alloc _)).mono ?_
  rintro e1 w1 ⟨rfl, hb1⟩
  have HB1 := Lib.hid (entB rfl hb1)
  have hok1 : Ok I w1 := (hw.alloc _).below (Nat.le_refl _) hb1
  have hb1' : Below w.heap.size w w1 := ((Below.refl _ _).alloc (Nat.le_refl _) _).trans (hb1.mono (by simp))
  clear hb1
  rcases right_cases t with hr | ⟨hr, hl, hok, hg⟩
  · rw [hr] at Hri
    go_wp2_with fail
    refine (Hri.out _ hok1).mono ?_
    rintro e2 w2 ⟨rfl, hb2⟩
    go_wp2
    go_ret
    exact ⟨rfl, hb1'.trans (hb2.mono hb1'.size)⟩
  rw [hr] at Hri
  have Hok := Lib.hid hok
  have Hg := Lib.hid hg
  clear hok hg
  go_wp2_with fail
  refine (Hri.out _ hok1).mono ?_
  rintro e2 w2 ⟨rfl, hb2⟩
  obtain ⟨c0, c1, c2, c3, c4, c5, c6⟩ := HB1.out.thru hb2
  have HB2 := Lib.hid (HB1.out.thru hb2)
  have hok2 := hok1.below (Nat.le_refl _) hb2
  have hb2' := hb1'.trans (hb2.mono hb1'.size)
  clear hb2 HB1 hb1'
  go_wp2_with fail
  refine (Hsm.out _ hok2).mono ?_
  rintro e3 w3 ⟨rfl, hb3⟩
  clear c0 c1 c2 c3 c4 c5 c6
  cases hge : greatE e
  case true =>
    go_wp2
    go_ret
    exact ⟨rfl, hb2'.trans (hb3.mono hb2'.size)⟩
  have hnn := great_no hge
  obtain ⟨c0, c1, c2, c3, c4, c5, c6⟩ := HB2.out.thru hb3
  have HB3 := Lib.hid (HB2.out.thru hb3)
  have hok3 := hok2.below (Nat.le_refl _) hb3
  have hb3' := hb2'.trans (hb3.mono hb2'.size)
  have hs3 := hb3'.size
  have hbz : w.heap.size < w3.heap.size := block_lt_of_cell c0
  clear hb3 HB2 hb2'
  obtain ⟨a, n, ha⟩ : ∃ a n, applyT t e = (a, n) := ⟨_, _, rfl⟩
  have Ha := Lib.hid ha
  clear ha
  go_wp2_with fail
  refine (dt_Apply_at I HI.out _ t Hv.out (sml_of Hg.out) Hok.out.srt (by omega) e _ _ Hva.out Hvx.out hwf (by omega) (by omega) Ha.out _ hok3).mono ?_
  rintro e4 w4 ⟨v4, I4, rfl, hb4, hx4, hok4, hr4⟩
  clear c0 c1 c2 c3 c4 c5 c6
  have HB4 := Lib.hid (HB3.out.thru hb4)
  have Hk := Lib.hid (hx4.keep hok3 (Nat.le_refl _))
  obtain ⟨ao4, cap4, rfl, _, _, _⟩ := id hr4
  have Hr4 := Lib.hid hr4
  have hb4' := hb3'.trans (hb4.mono hs3)
  have hs4 := hb4'.size
  clear hb4 hb3' hr4 hx4 HB3
  by_cases hn0 : n = 0
  case neg =>
    have hn1 : (n != 0) = true := by simpa using hn0
    have ha0 := apply_err Ha.out hn0
    subst ha0
    clear hn0 Ha
    go_wp2
    go_ret
    exact ⟨rfl, hb4'⟩
  subst hn0
  have Hoka := Lib.hid (applyT_ok Hok.out Ha.out)
  have hla := app_len Ha.out
  have HT := Lib.hid (dgT_of Hok.out (by omega))
  have HTa := Lib.hid (dgT_of Hoka.out (by omega))
  have HI4 := Lib.hid (HI.out.mono Hk.out)
  have Hv4 := Lib.hid (Hv.out.mono Hk.out)
  have Hb4 := Lib.hid hb4'
  have hpe : e.path.length ≤ 4294967280 := by omega
  obtain ⟨c0, c1, c2, c3, c4, c5, c6⟩ := HB4.out
  clear hb4' HI
  go_wp2_with fail
  clear c0 c1 c2 c3 c4 c5 c6
  go_loopw [36] (fun s36 wr => ∃ k : Nat, k ≤ t.length ∧ s36 = .int .i64 k ∧ EntB wr w.heap.size e (.slice aa e.attrs.length ca) (.slice ax e.exts.length cx) ∧ Below w.heap.size w wr ∧ Ok I4 wr) (fun i _ => t.length - (intOf i).toNat)
  case atStart => exact ⟨0, Nat.zero_le _, rfl, HB4.out, Hb4.out, hok4⟩
  case round =>
    clear HB4 Hb4
    obtain ⟨k, hk, rfl, hBe, hb, hwr⟩ := hrel
    have HBe := Lib.hid hBe
    clear hBe
    by_cases hlt : k < t.length
    case neg =>
      go_wp2
      go_ret
      exact ⟨rfl, hb⟩
    obtain ⟨y, vya, vyx, bb, off, cap', hly, hvv, ⟨d0, d1, d2, d3, d4, d5, d6⟩, h1, h2⟩ := entAt Hv4.out hwr k hlt
    cases hvv
    obtain ⟨ya, yc, rfl, _, _, _⟩ := id h1
    obtain ⟨yx, yd, rfl, _, _, _⟩ := id h2
    have Hym := Lib.hid (show y ∈ t by rw [← hly]; exact List.getElem_mem hlt)
    have hyp := (HT.out.ok y Hym.out).path
    have Hu1 := Lib.hid (fun w hw => pn_Under I4 HI4.out y.path e.path (by omega) hpe w hw)
    have Hu2 := Lib.hid (fun w hw => pn_Under I4 HI4.out e.path y.path hpe (by omega) w hw)
    have Hdt := Lib.hid (fun w hw => dt_Digest I4 HI4.out _ t Hv4.out HT.out y.path w hw)
    have Hda := Lib.hid (fun w hw => dt_Digest I4 HI4.out _ a Hr4.out HTa.out y.path w hw)
    have HY0 := Lib.hid (entB (n := wr.heap.size) (e := y) (va := .slice ya y.attrs.length yc) (vx := .slice yx y.exts.length yd) (t := 26) rfl (Below.refl _ _))
    have HB0 := Lib.hid (HBe.out.past (.cells #[.int .i64 y.kind, S y.path, .slice ya y.attrs.length yc, S y.target, .int .i64 y.size, S y.digest, .slice yx y.exts.length yd] 26))
    have hokY := hwr.alloc (.cells #[.int .i64 y.kind, S y.path, .slice ya y.attrs.length yc, S y.target, .int .i64 y.size, S y.digest, .slice yx y.exts.length yd] 26)
    have hbY := hb.alloc hb.size (.cells #[.int .i64 y.kind, S y.path, .slice ya y.attrs.length yc, S y.target, .int .i64 y.size, S y.digest, .slice yx y.exts.length yd] 26)
    clear hly h1 h2 hb HBe
    obtain ⟨c0, c1, c2, c3, c4, c5, c6⟩ := HB0.out
    obtain ⟨y0, y1, y2, y3, y4, y5, y6⟩ := HY0.out
    go_wp2_with fail
    refine (Hu1.out _ hokY).mono ?_
    rintro e5 w5 ⟨rfl, hb5⟩
    have HB5 := Lib.hid (HB0.out.thru hb5)
    have HY5 := Lib.hid (HY0.out.thru hb5)
    have hok5 : Ok I4 w5 := hokY.below (Nat.le_refl _) hb5
    have hb5' := hbY.trans (hb5.mono hbY.size)
    clear c0 c1 c2 c3 c4 c5 c6 y0 y1 y2 y3 y4 y5 y6 d0 d1 d2 d3 d4 d5 d6 hb5 hbY hokY HB0 HY0
    cases hu1 : under y.path e.path
    case true =>
      go_wp2
      go_roundw
      case rel => exact ⟨k + 1, by omega, by go_num, HB5.out, hb5', hok5⟩
      case measure => simp [intOf]; omega
    obtain ⟨c0, c1, c2, c3, c4, c5, c6⟩ := HB5.out
    obtain ⟨y0, y1, y2, y3, y4, y5, y6⟩ := HY5.out
    go_wp2_with fail
    refine (Hu2.out _ hok5).mono ?_
    rintro e6 w6 ⟨rfl, hb6⟩
    have HB6 := Lib.hid (HB5.out.thru hb6)
    have HY6 := Lib.hid (HY5.out.thru hb6)
    have hok6 : Ok I4 w6 := hok5.below (Nat.le_refl _) hb6
    have hb6' := hb5'.trans (hb6.mono hb5'.size)
    clear c0 c1 c2 c3 c4 c5 c6 y0 y1 y2 y3 y4 y5 y6 hb6 hb5' HB5 HY5
    cases hu2 : under e.path y.path
    case true =>
      go_wp2
      go_roundw
      case rel => exact ⟨k + 1, by omega, by go_num, HB6.out, hb6', hok6⟩
      case measure => simp [intOf]; omega
    obtain ⟨q1, q2⟩ := local_digest Hok.out Ha.out Hym.out hu1 hu2
    rw [q1] at Hdt
    rw [q2] at Hda
    clear q1 q2 hu1 hu2
    generalize merkP sumP 10 t y = s at Hdt Hda
    have qs : (s != s) = false := by simp
    have qs' : (s == s) = true := beq_self_eq_true s
    obtain ⟨y0, y1, y2, y3, y4, y5, y6⟩ := HY6.out
    go_wp2_with fail
    refine (Hdt.out _ hok6).mono ?_
    rintro e7 w7 ⟨rfl, hb7⟩
    have HB7 := Lib.hid (HB6.out.thru hb7)
    have HY7 := Lib.hid (HY6.out.thru hb7)
    have hok7 : Ok I4 w7 := hok6.below (Nat.le_refl _) hb7
    have hb7' := hb6'.trans (hb7.mono hb6'.size)
    clear y0 y1 y2 y3 y4 y5 y6 hb7 hb6' HB6 HY6
    obtain ⟨y0, y1, y2, y3, y4, y5, y6⟩ := HY7.out
    go_wp2_with fail
    refine (Hda.out _ hok7).mono ?_
    rintro e8 w8 ⟨rfl, hb8⟩
    have HB8 := Lib.hid (HB7.out.thru hb8)
    have hok8 : Ok I4 w8 := hok7.below (Nat.le_refl _) hb8
    have hb8' := hb7'.trans (hb8.mono hb7'.size)
    clear y0 y1 y2 y3 y4 y5 y6 hb8 hb7' HB7 HY7
    go_wp2
    go_roundw
    case rel => exact ⟨k + 1, by omega, by go_num, HB8.out, hb8', hok8⟩
    case measure => simp [intOf]; omega
end Go.Proofs.YtcbmdghnlbieeaaGreatDoor
namespace Go.Proofs.YtcbmdghnlbieeaaGreatDoor
open Go.ChangeShapes Go.WideShapes Go.ChangeAt Go.RowKit

set_option maxRecDepth 100000 in
theorem dloc_lifted (os : Os) (started : os.Started) (H : Type) (enc : TypeId × Value → H) :
    ReturnsInHanded {} Tryz.checked os 8 .any (fun w args => (Rows.dirtreeLocalSpec.pre enc Tryz.prog Tryz.f8 Rows.dirtreeLocalRow.domain false w args ∧ laidMetH Tryz.prog Rows.dirtreeLocalRow.laid w) ∧ sizedMet enc Tryz.prog Tryz.f8 (OpenSpec.ofChange Rows.dirtreeLocalSpec) false w args)
      (Rows.dirtreeLocalSpec.post enc Tryz.prog Tryz.f8 false true false false) := by
  refine handed_shaped (C := Tryz.checked) (X := fun w _ => laidMetH Tryz.prog Rows.dirtreeLocalRow.laid w) (fun _ _ _ hh h => h.of_heap hh) own started (by kernel_rfl) Tryz.func8
    (ChangeSpec.witness_shaped (enc := enc) (C := Tryz.checked) (os := os) (X := fun w _ => laidMetH Tryz.prog Rows.dirtreeLocalRow.laid w) false (World.laidAll Tryz.prog os Rows.dirtreeLocalRow.laid) #[.slice none 0 0, .agg #[.int .i64 0, .string ⟨#[]⟩, .slice none 0 0, .string ⟨#[]⟩, .int .i64 0, .string ⟨#[]⟩, .slice none 0 0]] 8 (World.laidAll_os _ _ _)
      (World.shaped_of_ZipB (by kernel_rfl) (by kernel_rfl)) (by kernel_rfl) (by kernel_rfl) (by kernel_rfl)
      (by rw [MakeChecks.laidMetH_plain _ _ _ (by kernel_rfl)]; exact laidMet_laidAll _ (by kernel_rfl) (by kernel_rfl))) ?_
  intro W base args ds gs before hval0 hW hsh hL
  have hval : ∀ (j : Nat) t v, Tryz.f8.params[j]? = some t → args[j]? = some v → Value.okWide Tryz.prog W .any base t v := hval0
  have hW' := hW
  obtain ⟨p, q, hA0, hV, rfl, _, _⟩ := hW
  have hA : DataW.TrodAll enc Tryz.prog W 0 (fun _ => true) true Tryz.f8.params.toList args.toList ds p := hA0
  rw [Tryz.params8] at hA hval
  obtain ⟨rfl, rfl⟩ := trodVars_none hV
  obtain ⟨v0, v1, d0, d1, p0, p1, rfl, rfl, rfl, h0, h1⟩ := trodAll_two hA
  obtain ⟨l, hl, hlw⟩ := ent_opens.arg Tryz.underlying22 (hval 0 _ v0 rfl rfl) h0
  obtain ⟨e1, va, vx, rfl, ha, hx, hwf⟩ := ent_arg (hval 1 _ v1 rfl rfl) h1
  refine (law_DirtreeLocal (HeapI W) (glob_of_laid hL hsh) _ l hl hlw e1 va vx ha hx hwf W (HeapI.ok W)).mono fun e W' ⟨he, hb⟩ => ?_
  subst he
  exact ⟨_, rfl, post_law laidOut rfl hW' (tb := 4) (by kernel_rfl) Tryz.underlying4 rfl (by kernel_rfl) hb⟩

theorem dloc_row : Rows.DirtreeLocalSaid :=
  OpenClaim.holds_of_wide 8 Tryz.f8 rfl rfl rfl rfl rfl rfl rfl ⟨rfl, rfl, rfl, rfl, rfl⟩ rfl rfl rfl rfl rfl (by kernel_rfl) Tryz.func8 (by kernel_rfl)
    (of_decide_eq_true (by kernel_rfl)) (by unfold Func.isWrapper; first | (rw [if_pos (by decide +kernel)]; kernel_rfl) | (rw [if_neg (by decide +kernel)]; exact ⟨rfl, rfl⟩))
    (fun os started H enc _ => dloc_lifted os started H enc)
theorem dloc_card : Rows.DirtreeLocalCardSaid :=
  Claim7.holds_tied_plain_at .later [] [.data, .data, .data, .data, .sentinel, .sentinel, .pinned] true (true, "eec0d5612baa64a3229f16033e416e2670cd7e7b277b87c34fefe3d96faa777a") true dloc_row (fun _ h => by cases h) (by kernel_rfl) (fun _ h => by cases h) dirtreeLocal_row_tie rfl ⟨rfl, rfl⟩ (by kernel_rfl) rfl
    (fun f fn hf hfn => by
      obtain rfl : f = 8 := Option.some.inj ((show Tryz.prog.funcNamed "stele/stelelaw37.DirtreeLocal" = some 8 by kernel_rfl).symm.trans hf) |>.symm
      obtain rfl : fn = Tryz.f8 := (Option.some.inj (Tryz.func8.symm.trans hfn)).symm
      exact ⟨by kernel_rfl, fun j t ht => by
        rw [Tryz.params8] at ht
        have hm : t ∈ [22, 26] := by simpa using Array.mem_of_getElem? ht
        have hall : (List.all [22, 26] fun u => !Tryz.prog.wantsStandIn u) = true := by kernel_rfl
        exact (show Tryz.prog.wantsStandIn t = false by simpa using List.all_eq_true.1 hall t hm)⟩)
    (by kernel_rfl)
#print axioms dloc_card
end Go.Proofs.YtcbmdghnlbieeaaGreatDoor
