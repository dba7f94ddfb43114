/-
  Walks of layer 36 (entry): Check.
-/
import Derived.Test.YtcbmdghnlbieeaaGreatDoorPeB
namespace Go.Proofs.YtcbmdghnlbieeaaGreatDoor
open Go.RowKit

theorem entErr_cont (e : Ent) : entErr e =
  if e.kind < 1 ∨ 6 < e.kind then 10
  else if pathErr e.path ≠ 0 then pathErr e.path
  else if e.path = [] ∧ e.kind < 5 then 1
  else if chk e.attrs ≠ 0 then chk e.attrs
  else if (e.attrs ≠ [] ∧ 3 < e.kind) ∨ targetOk e = false then 1 else contP e := rfl


set_option maxRecDepth 100000 in
set_option maxHeartbeats 4000000 in
theorem en_Check (I : IH) (hI : Glob I) (x : Ent) (va vx : Value) (hva : RdS tAt I va x.attrs) (hvx : RdS tXt I vx x.exts) (hwf : x.Wf) (hpl : x.path.length ≤ 4294967280) (htl : x.target.length ≤ 4294967280) (w : World) (hw : Ok I w) :
    Calls Tryz.prog 35 #[entV x va vx] w fun e w' => e = .returned (.int .i64 (entErr x)) ∧ Below w.heap.size w w' := by
  have hlx := hvx.len_le
  have hla := hva.len_le
  have Hct := Lib.hid (fun w hw => en_content I x va vx hva hvx hwf w hw)
  have Htg := Lib.hid (fun w hw => en_target I hI x htl va vx w hw)
  obtain ⟨ao, cap, rfl, hcap, hcm, _⟩ := id hvx
  obtain ⟨ao2, cap2, rfl, hcap2, hcm2, _⟩ := id hva
  have Hva := Lib.hid hva
  clear hvx hva
  have Hpc := Lib.hid (fun w hw => pn_Check I hI x.path hpl w hw)
  have Hac := Lib.hid (fun w hw => at_Check I _ x.attrs Hva.out hwf.attrs w hw)
  have hs0 := hwf.s0
  have hs1 := hwf.s1
  have hk0 := hwf.k0
  have hk1 := hwf.k1
  have hd1 := hwf.digest
  clear hwf
  by_cases hkl : x.kind < 1
  case pos =>
    have Hn := Lib.hid (show entErr x = 10 by rw [entErr_cont, if_pos (.inl hkl)])
    go_enter Tryz.func35, Tryz.ntmps35
    go_wp2
    go_ret
    exact ⟨ret_i Hn.out.symm, (Below.refl _ _).alloc (Nat.le_refl _) _⟩
  by_cases hkg : 6 < x.kind
  case pos =>
    have Hn := Lib.hid (show entErr x = 10 by rw [entErr_cont, if_pos (.inr hkg)])
    go_enter Tryz.func35, Tryz.ntmps35
    go_wp2
    go_ret
    exact ⟨ret_i Hn.out.symm, (Below.refl _ _).alloc (Nat.le_refl _) _⟩
  have He := Lib.hid (show entErr x = _ by rw [entErr_cont, if_neg (show ¬ (x.kind < 1 ∨ 6 < x.kind) by omega)])
  by_cases hpe : pathErr x.path = 0
  case neg =>
    obtain ⟨q, hq⟩ : ∃ q, pathErr x.path = q := ⟨_, rfl⟩
    have hn : (q != 0) = true := by rw [← hq]; simpa using hpe
    have Hn := Lib.hid (show entErr x = q by rw [He.out, if_pos hpe, hq])
    rw [hq] at Hpc
    clear hq hpe
    go_enter Tryz.func35, Tryz.ntmps35
    go_wp2_with fail
    refine (Hpc.out _ (hw.alloc _)).mono ?_
    rintro e w1 ⟨rfl, hb1⟩
    have hb1' : Below w.heap.size w w1 := ((Below.refl _ _).alloc (Nat.le_refl _) _).trans (hb1.mono (by simp))
    have hsz1 : w.heap.size < w1.heap.size := by have := hb1.size; simp at this; omega
    have hok1 : Ok I w1 := (hw.alloc _).below (Nat.le_refl _) hb1
    obtain ⟨c0, c1, c2, c3, c4, c5, c6⟩ := entB rfl hb1
    clear hb1
    go_wp2
    go_ret
    exact ⟨ret_i Hn.out.symm, hb1'⟩
  replace He := Lib.hid (show entErr x = _ by rw [He.out, if_neg (show ¬ pathErr x.path ≠ 0 by omega)])
  rw [hpe] at Hpc
  clear hpe
  by_cases he5 : x.path = [] ∧ x.kind < 5
  case pos =>
    have Hn := Lib.hid (show entErr x = 1 by rw [He.out, if_pos he5])
    obtain ⟨p1, p2, p3, p4⟩ := eq_emp he5.1
    have k5 : ((x.kind : Int) != 5) = true := by rw [bne_iff_ne]; omega
    have k6 : ((x.kind : Int) != 6) = true := by rw [bne_iff_ne]; omega
    have hk5 := he5.2
    clear he5
    go_enter Tryz.func35, Tryz.ntmps35
    go_wp2_with fail
    refine (Hpc.out _ (hw.alloc _)).mono ?_
    rintro e w1 ⟨rfl, hb1⟩
    have hb1' : Below w.heap.size w w1 := ((Below.refl _ _).alloc (Nat.le_refl _) _).trans (hb1.mono (by simp))
    have hsz1 : w.heap.size < w1.heap.size := by have := hb1.size; simp at this; omega
    have hok1 : Ok I w1 := (hw.alloc _).below (Nat.le_refl _) hb1
    obtain ⟨c0, c1, c2, c3, c4, c5, c6⟩ := entB rfl hb1
    clear hb1
    go_wp2
    go_ret
    exact ⟨ret_i Hn.out.symm, hb1'⟩
  replace He := Lib.hid (show entErr x = _ by rw [He.out, if_neg he5])
  have hpp : (((x.path == []) = true ∧ x.path.isEmpty = true ∧ (!x.path.isEmpty) = false ∧ (x.path != []) = false) ∧ (x.kind = 5 ∨ x.kind = 6)) ∨ ((x.path == []) = false ∧ x.path.isEmpty = false ∧ (!x.path.isEmpty) = true ∧ (x.path != []) = true) := by
    by_cases h : x.path = []
    · left; exact ⟨eq_emp h, by have := Int.not_lt.1 fun h2 => he5 ⟨h, h2⟩; omega⟩
    · right
      exact ne_emp h
  clear he5
  go_enter Tryz.func35, Tryz.ntmps35
  go_wp2_with fail
  refine (Hpc.out _ (hw.alloc _)).mono ?_
  rintro e w1 ⟨rfl, hb1⟩
  have hb1' : Below w.heap.size w w1 := ((Below.refl _ _).alloc (Nat.le_refl _) _).trans (hb1.mono (by simp))
  have hsz1 : w.heap.size < w1.heap.size := by have := hb1.size; simp at this; omega
  have hok1 : Ok I w1 := (hw.alloc _).below (Nat.le_refl _) hb1
  obtain ⟨c0, c1, c2, c3, c4, c5, c6⟩ := entB rfl hb1
  clear hb1
  clear Hpc
  go_upto_region 6 with fail
  go_cut [31] (fun s31 wx => s31 = .bool false ∧ w1 = wx)
  case first =>
    rcases hpp with ⟨⟨p1, p2, p3, p4⟩, p5 | p5⟩ | ⟨p1, p2, p3, p4⟩
    · have k5 : ((x.kind : Int) != 5) = false := by rw [p5]; rfl
      clear p5
      go_wp2_with fail
      go_meet
      exact ⟨rfl, rfl⟩
    · have k5 : ((x.kind : Int) != 5) = true := by rw [p5]; rfl
      have k6 : ((x.kind : Int) != 6) = false := by rw [p5]; rfl
      clear p5
      go_wp2_with fail
      go_meet
      exact ⟨rfl, rfl⟩
    · go_wp2_with fail
      go_meet
      exact ⟨rfl, rfl⟩
  case rest =>
    obtain ⟨rfl, hcut⟩ := hcut
    subst hcut
    clear hpp
    go_wp2_with fail
    refine (Hac.out _ hok1).mono ?_
    rintro e w2 ⟨rfl, hb2⟩
    have hb2' := hb1'.trans (hb2.mono (Nat.le_of_lt hsz1))
    have hsz2 : w.heap.size < w2.heap.size := by have := hb2.size; omega
    have hok2 : Ok I w2 := hok1.below (Nat.le_refl _) hb2
    obtain ⟨c0, c1, c2, c3, c4, c5, c6⟩ := EntB.thru (⟨c0, c1, c2, c3, c4, c5, c6⟩ : EntB w1 w.heap.size x _ _) hb2
    clear hb2 hb1' hsz1 hok1
    by_cases hca : chk x.attrs = 0
    case neg =>
      obtain ⟨q, hq⟩ : ∃ q, chk x.attrs = q := ⟨_, rfl⟩
      have hn : (q != 0) = true := by rw [← hq]; simpa using hca
      have Hn := Lib.hid (show entErr x = q by rw [He.out, if_pos hca, hq])
      rw [hq]
      clear hq hca
      go_wp2
      go_ret
      exact ⟨ret_i Hn.out.symm, hb2'⟩
    replace He := Lib.hid (show entErr x = _ by rw [He.out, if_neg (show ¬ chk x.attrs ≠ 0 by omega)])
    rw [hca]
    clear hca Hac
    go_upto_region 11 with fail
    go_cut [51] (fun s51 wx => ∃ w3, w3 = wx ∧ (s51 = .bool true ∧ entErr x = 1 ∨ s51 = .bool false ∧ ¬ ((x.attrs ≠ [] ∧ 3 < x.kind) ∨ targetOk x = false)) ∧ Below w2.heap.size w2 w3)
    case first =>
      have hmain : x.attrs.length < 1 ∨ (0 < x.attrs.length ∧ 3 < x.kind) ∨ (0 < x.attrs.length ∧ x.kind ≤ 3) := by omega
      rcases hmain with ha | ⟨ha, hk3⟩ | ⟨ha, hk3⟩
      · have d0 : decide (0 < x.attrs.length) = false := decide_eq_false (by omega)
        have Ha0 := Lib.hid (show x.attrs = [] from List.eq_nil_of_length_eq_zero (by omega))
        go_wp2_with fail
        refine (Htg.out _ hok2).mono ?_
        rintro e w3 ⟨rfl, hb3⟩
        cases htg : targetOk x
        · have Hn := Lib.hid (show entErr x = 1 by rw [He.out, if_pos (.inr htg)])
          clear htg
          go_wp2_with fail
          go_meet
          exact ⟨_, rfl, .inl ⟨rfl, Hn.out⟩, hb3⟩
        · go_wp2_with fail
          go_meet
          refine ⟨_, rfl, .inr ⟨(by first | rfl | (congr 1; exact decide_eq_false (by omega))), ?_⟩, hb3⟩
          rintro (⟨h1, h2⟩ | h1)
          · first
              | exact h1 Ha0.out
              | omega
          · rw [htg] at h1; exact absurd h1 (by simp)
      · have d0 : decide (0 < x.attrs.length) = true := decide_eq_true ha
        have Hn := Lib.hid (show entErr x = 1 by rw [He.out, if_pos (.inl ⟨by intro e; rw [e] at ha; simp at ha, hk3⟩)])
        go_wp2_with fail
        go_meet
        exact ⟨_, rfl, .inl ⟨(by first | rfl | (congr 1; exact decide_eq_true (by omega))), Hn.out⟩, Below.refl _ _⟩
      · have d0 : decide (0 < x.attrs.length) = true := decide_eq_true ha
        go_wp2_with fail
        refine (Htg.out _ hok2).mono ?_
        rintro e w3 ⟨rfl, hb3⟩
        cases htg : targetOk x
        · have Hn := Lib.hid (show entErr x = 1 by rw [He.out, if_pos (.inr htg)])
          clear htg
          go_wp2_with fail
          go_meet
          exact ⟨_, rfl, .inl ⟨rfl, Hn.out⟩, hb3⟩
        · go_wp2_with fail
          go_meet
          refine ⟨_, rfl, .inr ⟨(by first | rfl | (congr 1; exact decide_eq_false (by omega))), ?_⟩, hb3⟩
          rintro (⟨h1, h2⟩ | h1)
          · first
              | exact h1 Ha0.out
              | omega
          · rw [htg] at h1; exact absurd h1 (by simp)
    case rest =>
      obtain ⟨w3, hw3, htt, hb3⟩ := hcut
      subst hw3
      have hb3' := hb2'.trans (hb3.mono (Nat.le_of_lt hsz2))
      have hok3 : Ok I w3 := hok2.below (Nat.le_refl _) hb3
      obtain ⟨c0, c1, c2, c3, c4, c5, c6⟩ := EntB.thru (⟨c0, c1, c2, c3, c4, c5, c6⟩ : EntB w2 w.heap.size x _ _) hb3
      clear hb3 hb2' hsz2 hok2 Htg
      rcases htt with ⟨rfl, hn⟩ | ⟨rfl, htt⟩
      · have Hn := Lib.hid hn
        clear hn
        go_wp2
        go_ret
        exact ⟨ret_i Hn.out.symm, hb3'⟩
      have Hn := Lib.hid (show entErr x = contP x by rw [He.out, if_neg htt])
      clear htt
      go_wp2_with fail
      refine (Hct.out _ hok3).mono ?_
      rintro e w4 ⟨rfl, hb4⟩
      go_wp2
      go_ret
      exact ⟨ret_i Hn.out.symm, hb3'.trans (hb4.mono hb3'.size)⟩
end Go.Proofs.YtcbmdghnlbieeaaGreatDoor
