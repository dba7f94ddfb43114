/-
  Walks of layer 32: Merge.
-/
import Derived.Test.YtnnhgmpdfjljbaaDoorAtN
namespace Go.Proofs.YtnnhgmpdfjljbaaDoor
open Go.RowKit

set_option maxRecDepth 100000 in
set_option maxHeartbeats 2000000 in
theorem at_Merge (I : IH) (va vb : Value) (a b : List At) (hva : RdS tAt I va a) (ha : ∀ x ∈ a, x.Wf) (hvb : RdS tAt I vb b) (hb : ∀ x ∈ b, x.Wf) (w : World) (hw : Ok I w) :
    Calls Tryd.prog 15 #[va, vb] w (RetL tAt I w (mergeA a b).1 (mergeA a b).2) := by
  obtain ⟨ao, cap, rfl, hcap, hcm, _⟩ := id hva
  obtain ⟨ao2, cap2, rfl, hcap2, hcm2, _⟩ := id hvb
  have Hva := Lib.hid hva
  have Ha := Lib.hid ha
  have Hvb := Lib.hid hvb
  have Hb := Lib.hid hb
  clear hva ha hvb hb
  have HCa := Lib.hid (fun w hw => at_Check I _ a Hva.out Ha.out w hw)
  have HCb := Lib.hid (fun w hw => at_Check I _ b Hvb.out Hb.out w hw)
  have hw1 : Ok I (w.alloc (.cells #[.slice ao a.length cap, .slice ao2 b.length cap2] 22)) := hw.alloc _
  have hb1 : Below w.heap.size w (w.alloc (.cells #[.slice ao a.length cap, .slice ao2 b.length cap2] 22)) := (Below.refl _ _).alloc (Nat.le_refl _) _
  have hx0 : (w.alloc (.cells #[.slice ao a.length cap, .slice ao2 b.length cap2] 22)).cell? ⟨w.heap.size, 0, none⟩ = some (.slice ao a.length cap) := by simp
  have hx1 : (w.alloc (.cells #[.slice ao a.length cap, .slice ao2 b.length cap2] 22)).cell? ⟨w.heap.size, 1, none⟩ = some (.slice ao2 b.length cap2) := by simp
  have Hb1 := Lib.hid hb1
  have Hx0 := Lib.hid hx0
  have Hx1 := Lib.hid hx1
  clear hb1 hx0 hx1
  go_enter Tryd.func15, Tryd.ntmps15
  go_wp2_with fail
  generalize hW1 : w.alloc (.cells #[.slice ao a.length cap, .slice ao2 b.length cap2] 22) = W1 at Hb1 Hx0 Hx1 hw1 ⊢
  clear hW1
  go_loopw [16] (fun s16 wr => ∃ k : Nat, k ≤ 2 ∧ s16 = .int .i64 k ∧ (1 ≤ k → chk a = 0) ∧ (2 ≤ k → chk b = 0) ∧ Below W1.heap.size W1 wr) (fun i _ => 2 - (intOf i).toNat)
  case atStart => exact ⟨0, by omega, rfl, by omega, by omega, Below.refl _ _⟩
  case round =>
    obtain ⟨k, hk, rfl, hk1, hk2, hb⟩ := hrel
    have Hk1 := Lib.hid hk1
    have Hk2 := Lib.hid hk2
    clear hk1 hk2
    have hok : Ok I wr := hw1.below (Nat.le_refl _) hb
    have hc0 := cell_thru hb Hx0.out
    have hc1 := cell_thru hb Hx1.out
    have hB := Hb1.out.trans (hb.mono Hb1.out.size)
    by_cases h0 : k = 0
    · subst h0
      go_wp2_with fail
      refine (HCa.out _ hok).mono ?_
      rintro e w2 ⟨rfl, hb2⟩
      have hb2' := hb.trans (hb2.mono hb.size)
      have hB2 := hB.trans (hb2.mono hB.size)
      by_cases hq0 : chk a = 0
      · have H0 := Lib.hid hq0
        rw [hq0]
        clear hq0
        go_wp2
        go_roundw
        case rel => exact ⟨1, by omega, rfl, fun _ => H0.out, by omega, hb2'⟩
        case measure => simp [intOf]
      · obtain ⟨q, hq⟩ : ∃ q, chk a = q := ⟨_, rfl⟩
        have hn0 : (q != 0) = true := by rw [← hq]; simpa using hq0
        have Hs := Lib.hid (show mergeA a b = ([], q) by rw [mergeA, if_pos hq0, hq])
        rw [hq]; clear hq hq0
        go_wp2
        go_ret2
        rw [Hs.out]
        exact ⟨_, I, rfl, hB2, Ext.refl _ _, hw.below (Nat.le_refl _) hB2, RdS.nil _ _⟩
    · by_cases h1 : k = 1
      · subst h1
        go_wp2_with fail
        refine (HCb.out _ hok).mono ?_
        rintro e w2 ⟨rfl, hb2⟩
        have hb2' := hb.trans (hb2.mono hb.size)
        have hB2 := hB.trans (hb2.mono hB.size)
        by_cases hq0 : chk b = 0
        · have H0 := Lib.hid hq0
          rw [hq0]
          clear hq0
          go_wp2
          go_roundw
          case rel => exact ⟨2, by omega, rfl, fun _ => Hk1.out (by omega), fun _ => H0.out, hb2'⟩
          case measure => simp [intOf]
        · obtain ⟨q, hq⟩ : ∃ q, chk b = q := ⟨_, rfl⟩
          have hn0 : (q != 0) = true := by rw [← hq]; simpa using hq0
          have Hs := Lib.hid (show mergeA a b = ([], q) by rw [mergeA, if_neg (by rw [Hk1.out (by omega)]; simp), if_pos hq0, hq])
          rw [hq]; clear hq hq0
          go_wp2
          go_ret2
          rw [Hs.out]
          exact ⟨_, I, rfl, hB2, Ext.refl _ _, hw.below (Nat.le_refl _) hB2, RdS.nil _ _⟩
      · have h2 : k = 2 := by omega
        subst h2
        have hoa := (chk_eq a).1 (Hk1.out (by omega))
        have hob := (chk_eq b).1 (Hk2.out (by omega))
        have hla := hoa.len
        have hlb := hob.len
        have Hmrg := Lib.hid (show mergeA a b = if 16 < (mrgA a b).length then ([], 6) else (mrgA a b, 0) by rw [mergeA, if_neg (by rw [Hk1.out (by omega)]; simp), if_neg (by rw [Hk2.out (by omega)]; simp)])
        have Hoa := Lib.hid hoa.srt
        have Hob := Lib.hid hob.srt
        clear hoa hob hc0 hc1 Hx0 Hx1 Hk1 Hk2
        go_wp2_with fail
        refine (at_Clone I _ b Hvb.out _ hok (by omega)).mono ?_
        rintro e w2 ⟨v2, rfl, hown2, hb2⟩
        have hok2 : Ok I w2 := hok.below (Nat.le_refl _) hb2
        have Hown2 := Lib.hid hown2
        have HB2 := Lib.hid (hB.trans (hb2.mono hB.size))
        have hsz2 := hb2.size
        have Hfr := Lib.hid (fun b (hb : wr.heap.size ≤ b) => hok.fresh hb)
        have Hsz := Lib.hid hB.size
        clear hown2 hb2 hb hok hB
        generalize wr.heap.size = B0 at Hown2 Hfr hsz2 Hsz
        clear wr
        go_wp2_with fail
        go_loopw [9, 30] (fun s9 s30 X => ∃ k : Nat, k ≤ a.length ∧ s30 = .int .i64 k ∧ OwnS tAt 34 I X B0 s9 (b ++ ownA (a.take k) b) ∧ Below B0 w2 X) (fun _ i _ => a.length - (intOf i).toNat)
        case atStart => exact ⟨0, Nat.zero_le _, rfl, by simpa [ownA] using Hown2.out, Below.refl _ _⟩
        case round =>
          clear Hown2
          obtain ⟨k, hk, rfl, hown, hX⟩ := hrel
          have Hown := Lib.hid hown
          have hBX := HB2.out.trans (hX.mono Hsz.out)
          have hoX : Ok I wr := hw.below (Nat.le_refl _) hBX
          have hln : (b ++ ownA (a.take k) b).length ≤ 32 := by
            rw [List.length_append]
            have := List.length_filter_le (fun x : At => !(b.any fun y => y.k == x.k)) (a.take k)
            rw [List.length_take] at this
            simp only [ownA]
            omega
          clear hown
          by_cases hlt : k < a.length
          · obtain ⟨x, bb, off, cap', hlx, hvv, hc0, hc1⟩ := atAt Hva.out hoX k hlt
            cases hvv
            have Htk := Lib.hid (ownA_take a b k hlt)
            rw [hlx] at Htk
            clear hlx
            go_wp2_with fail
            refine (at_has x.k _).mono ?_
            rintro e w3 ⟨rfl, hw3⟩
            have hb3 : Below (wr.alloc (.cells #[S x.k, S x.v] 34)).heap.size (wr.alloc (.cells #[S x.k, S x.v] 34)) w3 := by rw [hw3]; exact (Below.refl _ _).alloc (Nat.le_refl _) _
            obtain ⟨hx0, hx1⟩ := atBox rfl hb3
            have hb3' : Below wr.heap.size wr w3 := ((Below.refl _ _).alloc (Nat.le_refl _) _).trans (hb3.mono (by simp))
            have hok3 : Ok I w3 := hoX.below (Nat.le_refl _) hb3'
            have hkc : w3.cell? ⟨wr.heap.size + 1, 0, none⟩ = some (S x.k) := by
              rw [hw3]
              have h := World.cell?_alloc_new (wr.alloc (.cells #[S x.k, S x.v] 34)) #[S x.k] 9 0
              simp at h
              first | exact h | simp
            have Hp := Lib.hid (at_has1 x.k (wr.heap.size + 1) w3 hkc)
            have Hown3 := Lib.hid (Hown.out.below hb3')
            have hX3 := hX.trans (hb3'.mono (by have := hX.size; omega))
            clear hw3 hb3 hb3' hkc hc0 hc1
            go_wp2_with fail
            refine (lib_ContainsFunc I _ b Hvb.out _ _ _ _ hok3 (fun _ _ => by kernel_rfl) Hp.out).mono ?_
            rintro e w4 ⟨rfl, hb4⟩
            have g0 := cell_thru hb4 hx0
            have g1 := cell_thru hb4 hx1
            have Hown4 := Lib.hid (Hown3.out.below hb4)
            have hX4 := hX3.trans (hb4.mono (by have := hX3.size; omega))
            clear hx0 hx1 hb4 Hown3 hX3 Hown
            cases hany : (b.any fun y => y.k == x.k)
            · have Hnx := Lib.hid (show b ++ ownA (a.take (k + 1)) b = (b ++ ownA (a.take k) b) ++ [x] by rw [Htk.out, hany]; simp)
              clear hany
              go_wp2_with (at_builtin; refine wpList_append1 (w0 := w4) at_elem rfl _ _ rfl _ _ _ rfl Hown4.out x [S x.k, S x.v] _ rfl rfl (by omega) (by omega) (Nat.le_trans hsz2 (Below.size hX4)) ?_)
              intro v5 w5 hown5 hg5
              have hb5 := Below.own hX4 hg5 Hown4.out (Nat.le_refl _) (by have := hX4.size; omega)
              have hown6 : OwnS tAt 34 I w5 B0 v5 (b ++ ownA (a.take (k + 1)) b) := by rw [Hnx.out]; first | exact hown5 | (rw [List.append_assoc]; exact hown5)
              clear hown5
              go_wp2
              go_roundw
              case rel => exact ⟨k + 1, by omega, by go_num, hown6, hb5⟩
              case measure => simp [intOf]; omega
            · have Hnx := Lib.hid (show b ++ ownA (a.take (k + 1)) b = (b ++ ownA (a.take k) b) by rw [Htk.out, hany]; simp)
              have hown5 := Hown4.out
              rw [← Hnx.out] at hown5
              clear hany
              go_wp2
              go_roundw
              case rel => exact ⟨k + 1, by omega, by go_num, hown5, hX4⟩
              case measure => simp [intOf]; omega
          · have hke : k = a.length := by omega
            have hml := mrg_len Hoa.out Hob.out
            have Hm2 := Lib.hid (fun l' (h : SrtdA (b ++ ownA (a.take k) b) l') => mrg_sorted Hoa.out Hob.out (l := l') (by rw [hke, List.take_length] at h; exact h))
            have hle : (b ++ ownA (a.take k) b).length = (mrgA a b).length := by rw [hke, List.take_length]; exact hml
            obtain ⟨I', hI1, hI2, hI3, _⟩ := Hown.out.freeze hoX Hfr.out
            obtain ⟨ao3, cap3, rfl, hcap3, hcm3, _⟩ := id hI3
            have Hsrt := Lib.hid (fun W hW => lib_Sort I W B0 _ _ (hW : OwnS tAt 34 I W B0 (.slice ao3 (b ++ ownA (a.take k) b).length cap3) (b ++ ownA (a.take k) b)) (by omega))
            generalize b ++ ownA (a.take k) b = L at *
            clear hke hml hI1 hI2 hI3
            have Hle := Lib.hid hle
            clear hle
            by_cases h16 : 16 < L.length
            · have hd : decide (16 < L.length) = true := decide_eq_true (by omega)
              have Hs := Lib.hid (show mergeA a b = ([], 6) by rw [Hmrg.out, if_pos (by rw [← Hle.out]; exact h16)])
              go_wp2_with fail
              go_ret2
              rw [Hs.out]
              exact ⟨_, I, rfl, hBX, Ext.refl _ _, hoX, RdS.nil _ _⟩
            · have hd : decide (16 < L.length) = false := decide_eq_false (by omega)
              have Hs := Lib.hid (show mergeA a b = (mrgA a b, 0) by rw [Hmrg.out, if_neg (by rw [← Hle.out]; exact h16)])
              go_wp2_with fail
              refine (Hsrt.out _ Hown.out).mono ?_
              rintro e w5 ⟨rfl, l', hs', hown5, hg5⟩
              have hl' := Hm2.out l' hs'
              subst hl'
              have hb5 := Below.own hX hg5 Hown.out (Nat.le_refl _) (by have := hX.size; omega)
              have hok5 : Ok I w5 := Ok.own hoX hg5 Hown.out Hfr.out
              have Hown5 := Lib.hid hown5
              clear hown5 hs' hg5
              go_wp2
              go_ret2
              rw [Hs.out]
              obtain ⟨I', hI1, hI2, hI3, _⟩ := Hown5.out.freeze hok5 Hfr.out
              exact ⟨_, I', rfl, HB2.out.trans (hb5.mono Hsz.out), hI1.mono Hsz.out, hI2, hI3⟩
end Go.Proofs.YtnnhgmpdfjljbaaDoor
