/-
  Walks of layer 31 (pathname): Check, Split, Parent, Under, Compare.
-/
import Derived.Test.YtcbmdghnlbieeaaGreatDoorPbB
namespace Go.Proofs.YtcbmdghnlbieeaaGreatDoor
open Go.RowKit

theorem any_not (l : List Bytes) : l.any (fun s => !(comp s)) = !(l.all comp) := by
  induction l with
  | nil => rfl
  | cons x l ih => rw [List.any_cons, List.all_cons, ih, Bool.not_and]

set_option maxRecDepth 100000 in
set_option maxHeartbeats 400000 in
theorem pn_Check (I : IH) (hI : Glob I) (s : Bytes) (hs : s.length ≤ 4294967280) (w : World) (hw : Ok I w) :
    Calls Tryz.prog 29 #[S s] w fun e w' => e = .returned (.int .i64 (pathErr s)) ∧ Below w.heap.size w w' := by
  have Hel := Lib.hid (pn_elements I hI s hs w hw)
  have Hll := Lib.hid (fun (q : Bytes) (h : q ∈ els s) => els_len h)
  by_cases h200 : s.length ≤ 200
  case neg =>
    have hd : decide (200 < s.length) = true := decide_eq_true (by omega)
    have Hp := Lib.hid (show pathErr s = 6 by rw [pathErr, if_pos (by omega)])
    go_enter Tryz.func29, Tryz.ntmps29
    go_wp2_with fail
    refine Hel.out.mono ?_
    rintro e w1 ⟨v1, I1, rfl, hb1, hx1, hok1, hr1⟩
    obtain ⟨ao, cap, rfl, hcap, hcm, _⟩ := id hr1
    clear hr1
    go_wp2
    go_ret
    exact ⟨ret_i Hp.out.symm, hb1⟩
  have hd : decide (200 < s.length) = false := decide_eq_false (by omega)
  have Hp := Lib.hid (show pathErr s = if 8 < (els s).length then 6 else if (els s).all comp then 0 else 7 by rw [pathErr, if_neg (by omega)])
  generalize els s = l at Hel Hp Hll
  by_cases h8 : 8 < l.length
  case pos =>
    have Hp2 := Lib.hid (show pathErr s = 6 by rw [Hp.out, if_pos h8])
    go_enter Tryz.func29, Tryz.ntmps29
    go_wp2_with fail
    refine Hel.out.mono ?_
    rintro e w1 ⟨v1, I1, rfl, hb1, hx1, hok1, hr1⟩
    obtain ⟨ao, cap, rfl, hcap, hcm, _⟩ := id hr1
    clear hr1
    go_wp2
    go_ret
    exact ⟨ret_i Hp2.out.symm, hb1⟩
  have Hp2 := Lib.hid (show pathErr s = if l.all comp then 0 else 7 by rw [Hp.out, if_neg h8])
  go_enter Tryz.func29, Tryz.ntmps29
  go_wp2_with fail
  refine Hel.out.mono ?_
  rintro e w1 ⟨v1, I1, rfl, hb1, hx1, hok1, hr1⟩
  have Hcf := Lib.hid (lib_ContainsFuncS I1 v1 l hr1 67 (fun s => !(comp s)) w1 hok1 (fun _ _ => by kernel_rfl) (fun x hx W => pn_Check1 x (by have := Hll.out x hx; omega) W))
  rw [any_not] at Hcf
  obtain ⟨ao, cap, rfl, hcap, hcm, _⟩ := id hr1
  clear hr1
  go_wp2_with fail
  refine Hcf.out.mono ?_
  rintro e w2 ⟨rfl, hb2⟩
  cases ha : l.all comp
  · have Hn := Lib.hid (show pathErr s = 7 by rw [Hp2.out, ha]; rfl)
    clear ha
    go_wp2
    go_ret
    exact ⟨ret_i Hn.out.symm, hb1.trans (hb2.mono hb1.size)⟩
  · have Hn := Lib.hid (show pathErr s = 0 by rw [Hp2.out, ha]; rfl)
    clear ha
    go_wp2
    go_ret
    exact ⟨ret_i Hn.out.symm, hb1.trans (hb2.mono hb1.size)⟩

set_option maxRecDepth 100000 in
set_option maxHeartbeats 400000 in
theorem pn_Split (I : IH) (hI : Glob I) (s : Bytes) (hs : s.length ≤ 4294967280) (w : World) (hw : Ok I w) :
    Calls Tryz.prog 53 #[S s] w (RetL tStr I w (splP s).1 (splP s).2) := by
  have Hc := Lib.hid (pn_Check I hI s hs w hw)
  by_cases h0 : pathErr s = 0
  · rw [h0] at Hc
    have Hspl := Lib.hid (splP_ok h0)
    clear h0
    go_enter Tryz.func53, Tryz.ntmps53
    go_wp2_with fail
    refine Hc.out.mono ?_
    rintro e w1 ⟨rfl, hb1⟩
    have hok1 : Ok I w1 := hw.below (Nat.le_refl _) hb1
    go_wp2_with fail
    refine (pn_elements I hI s hs _ hok1).mono ?_
    rintro e w2 ⟨v2, I2, rfl, hb2, hx2, hok2, hr2⟩
    obtain ⟨ao, cap, rfl, hcap, hcm, _⟩ := id hr2
    go_wp2
    go_ret2
    rw [Hspl.out]
    exact ⟨_, I2, rfl, hb1.trans (hb2.mono hb1.size), hx2.mono hb1.size, hok2, hr2⟩
  · have Hspl := Lib.hid (splP_no h0)
    obtain ⟨q, hq⟩ : ∃ q, pathErr s = q := ⟨_, rfl⟩
    have hn : (q != 0) = true := by rw [← hq]; simpa using h0
    rw [hq] at Hspl Hc
    clear hq h0
    go_enter Tryz.func53, Tryz.ntmps53
    go_wp2_with fail
    refine Hc.out.mono ?_
    rintro e w1 ⟨rfl, hb1⟩
    have hok1 : Ok I w1 := hw.below (Nat.le_refl _) hb1
    go_wp2
    go_ret2
    rw [Hspl.out]
    exact ⟨_, I, rfl, hb1, Ext.refl _ _, hok1, RdS.nil _ _⟩

set_option maxRecDepth 100000 in
set_option maxHeartbeats 400000 in
theorem pn_Parent (I : IH) (hI : Glob I) (s : Bytes) (hs : s.length ≤ 4294967280) (w : World) (hw : Ok I w) :
    Calls Tryz.prog 41 #[S s] w fun e w' => e = .returned (.tuple #[S (parP s).1, .int .i64 (parP s).2]) ∧ Below w.heap.size w w' := by
  by_cases h0 : pathErr s = 0
  · have Hsp := Lib.hid (by have := pn_Split I hI s hs w hw; rw [splP_ok h0] at this; exact this)
    have hs2 := (pathErr_ok h0).1
    have hs8 := (pathErr_ok h0).2.1
    have Hpp := Lib.hid (show parP s = if s = [] then ([], 1) else (upP s, 0) by rw [parP, if_neg (by omega)])
    have hjl : (joinP (els s)).length ≤ 200 := by rw [joinP_els]; exact hs2
    have hel := els_nil (s := s)
    have hup : upP s = joinP ((els s).take ((els s).length - 1)) := by rw [upP, List.dropLast_eq_take]
    have Hjt := Lib.hid (joinP_take_le (els s) ((els s).length - 1))
    generalize els s = l at Hsp hjl hel hup Hjt hs8
    have Hel := Lib.hid hel
    have Hup := Lib.hid hup
    clear h0 hel hup
    go_enter Tryz.func41, Tryz.ntmps41
    go_wp2_with fail
    refine Hsp.out.mono ?_
    rintro e w1 ⟨v1, I1, rfl, hb1, hx1, hok1, hr1⟩
    obtain ⟨ao, cap, rfl, hcap, hcm, _⟩ := id hr1
    have Hr1 := Lib.hid hr1
    clear hr1 hx1
    have hml : maxLen = 9223372036854775807 := rfl
    by_cases hl0 : l.length = 0
    · have Hn := Lib.hid (show parP s = ([], 1) by rw [Hpp.out, if_pos (Hel.out.1 (List.eq_nil_of_length_eq_zero hl0))])
      have hz : ((l.length : Int) == 0) = true := by rw [hl0]; rfl
      clear hl0 hml
      go_wp2
      go_ret2
      rw [Hn.out]
      exact ⟨rfl, hb1⟩
    · have Hn := Lib.hid (show parP s = (joinP (l.take (l.length - 1)), 0) by
        rw [Hpp.out, if_neg (fun e => hl0 (by rw [Hel.out.2 e]; rfl)), Hup.out])
      have hz : ((l.length : Int) == 0) = false := by rw [beq_eq_false_iff_ne]; omega
      have hlp : 1 ≤ l.length := by omega
      have hi : IntKind.i64.wrap ((l.length : Int) - 1) = (l.length : Int) - 1 := IntWalk.i64_in _ (by omega)
      have hj : (0 : Int) ≤ (l.length : Int) - 1 := by omega
      have hj2 : (l.length : Int) - 1 ≤ (cap : Int) := by omega
      have hm : ((l.length : Int) - 1).toNat = l.length - 1 := by omega
      have Hr2 := Lib.hid (Hr1.out.takeS (n := l.length - 1) (by omega))
      have Hj2 := Lib.hid (lib_Join I1 _ _ Hr2.out (by have := Hjt.out; omega) (by rw [List.length_take]; omega) w1 hok1)
      clear hl0 hml
      go_wp2_with fail
      refine Hj2.out.mono ?_
      rintro e w2 ⟨rfl, hb2⟩
      go_wp2
      go_ret2
      rw [Hn.out]
      exact ⟨rfl, hb1.trans (hb2.mono hb1.size)⟩
  · have Hsp := Lib.hid (by have := pn_Split I hI s hs w hw; rw [splP_no h0] at this; exact this)
    obtain ⟨q, hq⟩ : ∃ q, pathErr s = q := ⟨_, rfl⟩
    have hn : (q != 0) = true := by rw [← hq]; simpa using h0
    have Hpp := Lib.hid (show parP s = ([], q) by rw [parP, if_pos h0, hq])
    rw [hq] at Hsp
    clear hq h0
    go_enter Tryz.func41, Tryz.ntmps41
    go_wp2_with fail
    refine Hsp.out.mono ?_
    rintro e w1 ⟨v1, I1, rfl, hb1, hx1, hok1, hr1⟩
    obtain ⟨ao, cap, rfl, hcap, hcm, _⟩ := id hr1
    go_wp2
    go_ret2
    rw [Hpp.out]
    exact ⟨rfl, hb1⟩

set_option maxRecDepth 100000 in
set_option maxHeartbeats 1000000 in
theorem pn_Under (I : IH) (hI : Glob I) (p d : Bytes) (hp : p.length ≤ 4294967280) (hd : d.length ≤ 4294967280) (w : World) (hw : Ok I w) :
    Calls Tryz.prog 22 #[S p, S d] w fun e w' => e = .returned (.bool (under p d)) ∧ Below w.heap.size w w' := by
  have Hsp := Lib.hid (pn_Split I hI p hp w hw)
  have Hu := Lib.hid (show under p d = (decide (pathErr p = 0) && decide (pathErr d = 0) && (els d).isPrefixOf (els p)) from rfl)
  have hq1 : (splP p).2 = pathErr p := by rw [splP]; split <;> simp_all
  have hq2 : (splP d).2 = pathErr d := by rw [splP]; split <;> simp_all
  have Hl1 := Lib.hid (fun h : pathErr p = 0 => show (splP p).1 = els p by rw [splP_ok h])
  have Hl2 := Lib.hid (fun h : pathErr d = 0 => show (splP d).1 = els d by rw [splP_ok h])
  have Hsd := Lib.hid (fun I hI w hw => pn_Split I hI d hd w hw)
  rw [hq1] at Hsp
  rw [hq2] at Hsd
  generalize (splP p).1 = l at Hsp Hl1
  generalize (splP d).1 = m at Hsd Hl2
  clear hq1 hq2
  go_enter Tryz.func22, Tryz.ntmps22
  go_wp2_with fail
  refine Hsp.out.mono ?_
  rintro e w1 ⟨v1, I1, rfl, hb1, hx1, hok1, hr1⟩
  have hI1 := hI.mono (hx1.keep hw (Nat.le_refl _))
  have Hr1 := Lib.hid hr1
  clear hr1
  obtain ⟨ao0, cap0, rfl, _, _, _⟩ := id Hr1.out
  go_wp2_with fail
  refine (Hsd.out I1 hI1 _ hok1).mono ?_
  rintro e w2 ⟨v2, I2, rfl, hb2, hx2, hok2, hr2⟩
  have hr1 := Hr1.out.mono (hx2.keep hok1 (Nat.le_refl _))
  have hb2' := hb1.trans (hb2.mono hb1.size)
  obtain ⟨ao, cap, e1, hcap, hcm, _⟩ := id hr1
  cases e1
  obtain ⟨ao2, cap2, rfl, hcap2, hcm2, _⟩ := id hr2
  have hlen := hr1.len_le
  have hlen2 := hr2.len_le
  have Hl := Lib.hid hr1
  have Hm := Lib.hid hr2
  clear hr1 hr2 Hr1 hb1 hb2 hx1 hx2
  by_cases h0 : pathErr p = 0
  case neg =>
    have Hn := Lib.hid (show under p d = false by rw [Hu.out, decide_eq_false h0]; rfl)
    obtain ⟨q, hq⟩ : ∃ q, pathErr p = q := ⟨_, rfl⟩
    have hn : (q == 0) = false := by rw [← hq]; simpa using h0
    rw [hq]
    clear hq h0
    go_wp2
    go_ret
    exact ⟨ret_b Hn.out.symm, hb2'⟩
  by_cases h1 : pathErr d = 0
  case neg =>
    have Hn := Lib.hid (show under p d = false by rw [Hu.out, decide_eq_false h1, Bool.and_false]; rfl)
    obtain ⟨q, hq⟩ : ∃ q, pathErr d = q := ⟨_, rfl⟩
    have hn : (q == 0) = false := by rw [← hq]; simpa using h1
    rw [hq, h0]
    clear hq h1 h0
    go_wp2
    go_ret
    exact ⟨ret_b Hn.out.symm, hb2'⟩
  have Hu2 := Lib.hid (show under p d = m.isPrefixOf l by rw [Hu.out, decide_eq_true h0, decide_eq_true h1, Hl1.out h0, Hl2.out h1]; rfl)
  rw [h0, h1]
  clear h0 h1
  by_cases hlm : m.length ≤ l.length
  case neg =>
    have hd1 : decide (m.length ≤ l.length) = false := decide_eq_false hlm
    have Hn := Lib.hid (show under p d = false by rw [Hu2.out]; exact prefix_short (by omega))
    go_wp2
    go_ret
    exact ⟨ret_b Hn.out.symm, hb2'⟩
  have hd1 : decide (m.length ≤ l.length) = true := decide_eq_true hlm
  have hcc : m.length ≤ cap0 := by omega
  have Hn := Lib.hid (show under p d = decide (l.take m.length = m) by rw [Hu2.out]; exact prefix_take l m)
  have Heq := Lib.hid (lib_Equal I2 _ _ _ _ (Hl.out.takeS hlm) Hm.out w2 hok2)
  generalize decide (l.take m.length = m) = bb at Hn Heq
  go_wp2_with fail
  refine Heq.out.mono ?_
  rintro e w3 ⟨rfl, hb3⟩
  go_wp2
  go_ret
  exact ⟨ret_b Hn.out.symm, hb2'.trans (hb3.mono hb2'.size)⟩

def cmpS (x y : Bytes) : Int := if Op.bytesLess x y then -1 else if Op.bytesLess y x then 1 else 0
set_option maxRecDepth 100000 in
theorem lib_isNaN (x : Bytes) (w : World) : Calls Tryz.prog 113 #[S x] w fun e w' => e = .returned (.bool false) ∧ w' = w := by
  have f : (x != x) = false := by simp
  have f2 : (x == x) = true := by simp
  go_enter Tryz.func113, Tryz.ntmps113
  go_wp2
  go_ret
  exact ⟨by first | rfl | (simp), rfl⟩

set_option maxRecDepth 100000 in
set_option maxHeartbeats 400000 in
theorem lib_cmp (x y : Bytes) (w : World) : Calls Tryz.prog 80 #[S x, S y] w fun e w' => e = .returned (.int .i64 (cmpS x y)) ∧ w' = w := by
  rcases bl_total x y with ht | ht | ht
  · have Hn := Lib.hid (show cmpS x y = -1 by rw [cmpS, ht]; rfl)
    go_enter Tryz.func80, Tryz.ntmps80
    go_wp2_with fail
    refine (lib_isNaN x _).mono ?_
    rintro e w1 ⟨rfl, rfl⟩
    go_wp2_with fail
    refine (lib_isNaN y _).mono ?_
    rintro e w2 ⟨rfl, rfl⟩
    go_wp2
    go_ret
    exact ⟨ret_i Hn.out.symm, rfl⟩
  · have f1 : Op.bytesLess x y = false := by rw [ht]; exact bl_irrefl _
    have f2 : Op.bytesLess y x = false := by rw [ht]; exact bl_irrefl _
    have f3 : (x == y) = true := by simp [ht]
    have f4 : (!(x == y)) = false := by simp [ht]
    have Hn := Lib.hid (show cmpS x y = 0 by rw [cmpS, f1, f2]; rfl)
    clear ht
    go_enter Tryz.func80, Tryz.ntmps80
    go_wp2_with fail
    refine (lib_isNaN x _).mono ?_
    rintro e w1 ⟨rfl, rfl⟩
    go_wp2_with fail
    refine (lib_isNaN y _).mono ?_
    rintro e w2 ⟨rfl, rfl⟩
    go_wp2
    go_ret
    exact ⟨ret_i Hn.out.symm, rfl⟩
  · have f1 := bl_asymm ht
    have f3 : (x == y) = false := by simpa using (bl_ne ht).symm
    have f4 : (!(x == y)) = true := by rw [f3]; rfl
    have Hn := Lib.hid (show cmpS x y = 1 by rw [cmpS, f1, ht]; rfl)
    go_enter Tryz.func80, Tryz.ntmps80
    go_wp2_with fail
    refine (lib_isNaN x _).mono ?_
    rintro e w1 ⟨rfl, rfl⟩
    go_wp2_with fail
    refine (lib_isNaN y _).mono ?_
    rintro e w2 ⟨rfl, rfl⟩
    go_wp2
    go_ret
    exact ⟨ret_i Hn.out.symm, rfl⟩
end Go.Proofs.YtcbmdghnlbieeaaGreatDoor
