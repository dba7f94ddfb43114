/-
  Walks of the reference's layer 32: Merge; slices.Clone at attributes.
-/
import Derived.Test.YtnnhgmpdfjljbaaDoorAtE
import Derived.Test.YtnnhgmpdfjljbaaDoorRowK
namespace Go.Proofs.YtnnhgmpdfjljbaaDoor
open Go.RowKit

theorem at_Clone_info : (Tryd.prog.info? 34).map (fun i => (i.zero, i.size, i.bytes)) = some (some (.agg #[.string ⟨#[]⟩, .string ⟨#[]⟩]), 2, 32) := by kernel_rfl

set_option maxRecDepth 100000 in
set_option maxHeartbeats 400000 in
theorem at_Clone (I : IH) (v : Value) (l : List _) (hv : RdS tAt I v l) (w : World) (hw : Ok I w) (hbig : l.length * 32 ≤ 140737488355328) :
    Calls Tryd.prog 26 #[v] w fun e w' => ∃ v', e = .returned v' ∧ OwnS tAt 34 I w' w.heap.size v' l ∧ Below w.heap.size w w' := by
  obtain ⟨i0, hi, hz0, hz1, hz2⟩ := info_parts at_Clone_info
  have q22 : ∀ (w : World) (a : Option Addr) (n c n' c' : Nat), (binOp .eql 22 (.slice a n c) (.slice none n' c')).run Tryd.prog w = .ok (.bool a.isNone) w := fun w a n c n' c' => Lib.run_eql_slice_nil w _ _ a n c n' c' Tryd.underlying22
  obtain ⟨ao, cap, xs, rfl, hcap, hcm, hL, hx⟩ := hv.cells hw (by decide)
  have HL := Lib.hid hL
  have Hx := Lib.hid hx
  clear hL hx hv
  cases ao with
  | none =>
    have h0 : l.length = 0 := by
      rcases Nat.eq_zero_or_pos l.length with h | h
      · exact h
      · obtain ⟨b, off, arr, e, _⟩ := Hx.out h; cases e
    have : l = [] := List.eq_nil_of_length_eq_zero h0
    subst this
    go_enter Tryd.func26, Tryd.ntmps26
    go_wp2
    go_ret
    exact ⟨_, rfl, OwnS.nil _ _ _ _ _, Below.refl _ _⟩
  | some a =>
    go_enter Tryd.func26, Tryd.ntmps26
    go_wp2_with (at_builtin; refine wpList_append_own _ rfl _ _ 22 rfl w.heap.size 34 i0 _ 2 32 Tryd.underlying22 hi hz0 hz1 hz2 rfl (by decide) _ _ _ rfl (World.ownsRow_made w #[] 0 (Nat.le_refl _) (Nat.zero_le _) (by simp)) a l.length cap xs rfl ?qc1 ?qc2 ?qc3 ?qc4 ?qc5 ?qc6 ?_)
    case qc1 => exact HL.out.1
    case qc2 =>
      intro j u hj
      have hl : 0 < l.length := by
        have := (List.getElem?_eq_some_iff.1 hj).1
        rw [HL.out.1] at this
        rcases Nat.eq_zero_or_pos l.length with h | h
        · rw [h] at this; omega
        · exact h
      obtain ⟨b, off, arr, e, _, hb, hc⟩ := Hx.out hl
      cases e
      rw [Addr.add_lit]
      rw [World.cell?_alloc_lt _ _ _ hb]
      exact hc j u hj
    case qc3 => exact HL.out.oneCell
    case qc4 => rw [Nat.zero_add]; omega
    case qc5 => rw [Nat.zero_add]; exact hbig
    case qc6 => simp
    intro v' w1 hown hgrow _
    go_wp2
    go_ret
    refine ⟨v', rfl, ⟨xs, (by have hq := hown; first | exact hq | (simp at hq; exact hq)), HL.out⟩, ?_⟩
    exact ((Below.refl _ w).alloc (Nat.le_refl _) _).grown hgrow (by simp) (by intro k hk; simp [Value.ownBlock] at hk; omega)

theorem mrgA_snoc (a b : List At) (x : At) : mrgA a (b ++ [x]) = putA (mrgA a b) x := by simp [mrgA]
theorem mrgA_len (a b : List At) : (mrgA a b).length ≤ a.length + b.length := by
  have : ∀ (b a : List At), (mrgA a b).length ≤ a.length + b.length := by
    intro b
    induction b with
    | nil => intro a; simp [mrgA]
    | cons x b ih =>
      intro a
      have h1 := ih (putA a x)
      have h2 := putA_len a x
      show (mrgA (putA a x) b).length ≤ _
      simp only [List.length_cons]
      omega
  exact this b a

/-- What the loop keeps: a list so far. -/
structure MrM (I : IH) (w w' : World) (v : Value) (L : List At) (I' : IH) : Prop where
  ext : Ext w.heap.size I I'
  ok : Ok I' w'
  rd : RdS tAt I' v L
  below : Below w.heap.size w w'

set_option maxRecDepth 100000 in
set_option maxHeartbeats 2000000 in
theorem ref32_Merge (I : IH) (va vb : Value) (a b : List At) (hva : RdS tAt I va a) (ha : ∀ x ∈ a, x.Wf) (hvb : RdS tAt I vb b) (hb : ∀ x ∈ b, x.Wf) (w : World) (hw : Ok I w) :
    Calls Tryd.prog 16 #[va, vb] w (RetL tAt I w (mergeA a b).1 (mergeA a b).2) := by
  obtain ⟨i0, hi, hz0, hz1, hz2⟩ := info_parts at_info
  obtain ⟨ao, cap, xs, rfl, hcap, hcm, hL, hx⟩ := hva.cells hw (by decide)
  obtain ⟨ao2, cap2, rfl, hcap2, hcm2, _⟩ := id hvb
  have HL := Lib.hid hL
  have Hx := Lib.hid hx
  have Hva := Lib.hid hva
  have Ha := Lib.hid ha
  have Hvb := Lib.hid hvb
  have Hb := Lib.hid hb
  have hml : maxLen = 9223372036854775807 := rfl
  have hcmm : cap ≤ 9223372036854775807 := by omega
  clear hL hx hva ha hvb hb hml hcm
  by_cases h0 : chk a = 0
  · have hoka := (chk_eq a).1 h0
    have hlena := hoka.len
    have H0 := Lib.hid h0
    clear h0 hoka
    by_cases h1 : chk b = 0
    · have hokb := (chk_eq b).1 h1
      have hlenb := hokb.len
      have Hmrg := Lib.hid (show mergeA a b = if 16 < (mrgA a b).length then ([], 6) else (mrgA a b, 0) by rw [mergeA, if_neg (by have := H0.out; omega), if_neg (by omega)])
      have H1 := Lib.hid h1
      clear h1 hokb
      go_enter Tryd.func16, Tryd.ntmps16
      go_wp2_with fail
      refine (ref32_Check I _ a Hva.out Ha.out _ hw).mono ?_
      rintro e w1 ⟨rfl, hb1⟩
      rw [H0.out]
      have hok1 : Ok I w1 := hw.below (Nat.le_refl _) hb1
      go_wp2_with fail
      refine (ref32_Check I _ b Hvb.out Hb.out _ hok1).mono ?_
      rintro e w2 ⟨rfl, hb2⟩
      rw [H1.out]
      have hok2 : Ok I w2 := hok1.below (Nat.le_refl _) hb2
      have Hb2 := Lib.hid (hb1.trans (hb2.mono hb1.size))
      clear hb1 hb2 hok1
      have hap : ∀ j u, xs[j]? = some u → 0 < a.length ∧ ∃ bb off, ao = some ⟨bb, off, none⟩ ∧ (w2.alloc (.cells #[] 34)).cell? ⟨bb, off + j, none⟩ = some u := by
        intro j u hj
        have hl : 0 < a.length := by
          have := (List.getElem?_eq_some_iff.1 hj).1
          rw [HL.out.1] at this
          rcases Nat.eq_zero_or_pos a.length with h | h
          · rw [h] at this; omega
          · exact h
        obtain ⟨bb, off, arr, e, _, hbb, hc⟩ := Hx.out hl
        exact ⟨hl, bb, off, e, cell_past _ (cell_thru Hb2.out (hc j u hj))⟩
      have Hap := Lib.hid hap
      clear hap
      cases ao with
      | none =>
        have ha0 : a = [] := by
          rcases Nat.eq_zero_or_pos a.length with h | h
          · exact List.eq_nil_of_length_eq_zero h
          · obtain ⟨bb, off, arr, e, _⟩ := Hx.out h; cases e
        have hal : a.length = 0 := by rw [ha0]; rfl
        have Ha0 := Lib.hid ha0
        clear ha0
        go_wp2_with fail
        have hb3 : Below w2.heap.size w2 (w2.alloc (.cells #[] 34)) := (Below.refl _ w2).alloc (Nat.le_refl _) _
        have hown' : OwnS tAt 34 I (w2.alloc (.cells #[] 34)) w2.heap.size (.slice (some ⟨w2.heap.size, 0, none⟩) 0 0) a := by
          rw [Ha0.out]; exact ⟨[], World.ownsRow_made w2 #[] 0 (Nat.le_refl _) (Nat.zero_le _) (by simp), LiesL.nil _ _⟩
        obtain ⟨I1, hI1, hI2, hI3, _⟩ := hown'.freeze (hok2.alloc _) (fun b hb => hok2.fresh hb)
        have Hm0 := Lib.hid (show MrM I w2 (w2.alloc (.cells #[] 34)) (.slice (some ⟨w2.heap.size, 0, none⟩) 0 0) (mrgA a (b.take 0)) I1 from ⟨hI1, hI2, hI3, hb3⟩)
        clear hown' hb3 hI1 hI2 hI3
        go_loopw [8, 9] (fun s8 s9 wr => ∃ (k : Nat) (I' : IH), k ≤ b.length ∧ s9 = .int .i64 k ∧ MrM I w2 wr s8 (mrgA a (b.take k)) I') (fun _ k _ => b.length - (intOf k).toNat)
        case atStart => exact ⟨0, I1, Nat.zero_le _, rfl, Hm0.out⟩
        case round =>
          clear Hm0
          obtain ⟨k, I', hk, rfl, hm⟩ := hrel
          have Hm := Lib.hid hm
          have hok := hm.ok
          have Hvb' := Lib.hid (Hvb.out.mono (hm.ext.keep hok2 (Nat.le_refl _)))
          have hml := mrgA_len a (b.take k)
          rw [List.length_take] at hml
          have hml2 : (mrgA a (b.take k)).length ≤ 1000000 := by omega
          clear hm hml
          by_cases hlt : k < b.length
          · obtain ⟨x, bb, off, cap', hlx, hvv, hc0, hc1⟩ := atAt Hvb'.out hok k hlt
            cases hvv
            have Htk := Lib.hid (show mrgA a (b.take (k + 1)) = putA (mrgA a (b.take k)) x by rw [List.take_succ_eq_append_getElem hlt, hlx, mrgA_snoc])
            clear hlx
            go_wp2_with fail
            refine (ref32_put I' _ (mrgA a (b.take k)) Hm.out.rd hml2 x _ hok).mono ?_
            rintro e w4 ⟨v4, I4, rfl, hb4, hx4, hok4, hr4⟩
            have Hm4 := Lib.hid (show MrM I w2 w4 v4 (mrgA a (b.take (k + 1))) I4 from ⟨Hm.out.ext.trans hx4 Hm.out.below.size, hok4, by rw [Htk.out]; exact hr4, Hm.out.below.trans (hb4.mono Hm.out.below.size)⟩)
            clear hb4 hx4 hok4 hr4
            go_wp2
            go_roundw
            case rel => exact ⟨k + 1, I4, by omega, by go_num, Hm4.out⟩
            case measure => simp [intOf]; omega
          · have hke : b.take k = b := List.take_of_length_le (by omega)
            rw [hke] at Hm hml2
            obtain ⟨ao9, cap9, rfl, hcap9, hcm9, _⟩ := id Hm.out.rd
            clear hke
            by_cases h16 : (mrgA a b).length ≤ 16
            · have hd2 : decide (16 < (mrgA a b).length) = false := decide_eq_false (by omega)
              have Hs := Lib.hid (show mergeA a b = (mrgA a b, 0) by rw [Hmrg.out, if_neg (by omega)])
              go_wp2
              go_ret2
              rw [Hs.out]
              exact ⟨_, I', rfl, Hb2.out.trans (Hm.out.below.mono Hb2.out.size), Hm.out.ext.mono Hb2.out.size, hok, Hm.out.rd⟩
            · have hd2 : decide (16 < (mrgA a b).length) = true := decide_eq_true (by omega)
              have Hs := Lib.hid (show mergeA a b = ([], 6) by rw [Hmrg.out, if_pos (by omega)])
              go_wp2
              go_ret2
              rw [Hs.out]
              exact ⟨_, I', rfl, Hb2.out.trans (Hm.out.below.mono Hb2.out.size), Hm.out.ext.mono Hb2.out.size, hok, RdS.nil _ _⟩
      | some aa =>
        go_wp2_with (at_builtin; refine wpList_append_own _ rfl _ _ 22 rfl w2.heap.size 34 i0 _ 2 32 Tryd.underlying22 hi hz0 hz1 hz2 rfl (by decide) _ _ _ rfl (World.ownsRow_made w2 #[] 0 (Nat.le_refl _) (Nat.zero_le _) (by simp)) aa a.length cap xs rfl ?qc1 ?qc2 ?qc3 ?qc4 ?qc5 ?qc6 ?_)
        case qc1 => exact HL.out.1
        case qc2 =>
          intro j u hj
          obtain ⟨_, bb, off, e, hc⟩ := Hap.out j u hj
          cases e
          rw [Addr.add_lit]
          exact hc
        case qc3 => exact HL.out.oneCell
        case qc4 => rw [Nat.zero_add]; unfold maxLen; omega
        case qc5 => rw [Nat.zero_add]; omega
        case qc6 => simp
        intro v' w3 hown hgrow _
        have hown' : OwnS tAt 34 I w3 w2.heap.size v' a := ⟨xs, (by have hq := hown; first | exact hq | (simp at hq; exact hq)), HL.out⟩
        have hb3 : Below w2.heap.size w2 w3 := ((Below.refl _ w2).alloc (Nat.le_refl _) _).grown hgrow (by simp) (by intro k hk; simp [Value.ownBlock] at hk; omega)
        obtain ⟨I1, hI1, hI2, hI3, _⟩ := hown'.freeze (hok2.below (Nat.le_refl _) hb3) (fun b hb => hok2.fresh hb)
        have Hm0 := Lib.hid (show MrM I w2 w3 v' (mrgA a (b.take 0)) I1 from ⟨hI1, hI2, hI3, hb3⟩)
        clear hown hgrow hown' hb3 hI1 hI2 hI3
        go_wp2_with fail
        go_loopw [8, 9] (fun s8 s9 wr => ∃ (k : Nat) (I' : IH), k ≤ b.length ∧ s9 = .int .i64 k ∧ MrM I w2 wr s8 (mrgA a (b.take k)) I') (fun _ k _ => b.length - (intOf k).toNat)
        case atStart => exact ⟨0, I1, Nat.zero_le _, rfl, Hm0.out⟩
        case round =>
          clear Hm0
          obtain ⟨k, I', hk, rfl, hm⟩ := hrel
          have Hm := Lib.hid hm
          have hok := hm.ok
          have Hvb' := Lib.hid (Hvb.out.mono (hm.ext.keep hok2 (Nat.le_refl _)))
          have hml := mrgA_len a (b.take k)
          rw [List.length_take] at hml
          have hml2 : (mrgA a (b.take k)).length ≤ 1000000 := by omega
          clear hm hml
          by_cases hlt : k < b.length
          · obtain ⟨x, bb, off, cap', hlx, hvv, hc0, hc1⟩ := atAt Hvb'.out hok k hlt
            cases hvv
            have Htk := Lib.hid (show mrgA a (b.take (k + 1)) = putA (mrgA a (b.take k)) x by rw [List.take_succ_eq_append_getElem hlt, hlx, mrgA_snoc])
            clear hlx
            go_wp2_with fail
            refine (ref32_put I' _ (mrgA a (b.take k)) Hm.out.rd hml2 x _ hok).mono ?_
            rintro e w4 ⟨v4, I4, rfl, hb4, hx4, hok4, hr4⟩
            have Hm4 := Lib.hid (show MrM I w2 w4 v4 (mrgA a (b.take (k + 1))) I4 from ⟨Hm.out.ext.trans hx4 Hm.out.below.size, hok4, by rw [Htk.out]; exact hr4, Hm.out.below.trans (hb4.mono Hm.out.below.size)⟩)
            clear hb4 hx4 hok4 hr4
            go_wp2
            go_roundw
            case rel => exact ⟨k + 1, I4, by omega, by go_num, Hm4.out⟩
            case measure => simp [intOf]; omega
          · have hke : b.take k = b := List.take_of_length_le (by omega)
            rw [hke] at Hm hml2
            obtain ⟨ao9, cap9, rfl, hcap9, hcm9, _⟩ := id Hm.out.rd
            clear hke
            by_cases h16 : (mrgA a b).length ≤ 16
            · have hd2 : decide (16 < (mrgA a b).length) = false := decide_eq_false (by omega)
              have Hs := Lib.hid (show mergeA a b = (mrgA a b, 0) by rw [Hmrg.out, if_neg (by omega)])
              go_wp2
              go_ret2
              rw [Hs.out]
              exact ⟨_, I', rfl, Hb2.out.trans (Hm.out.below.mono Hb2.out.size), Hm.out.ext.mono Hb2.out.size, hok, Hm.out.rd⟩
            · have hd2 : decide (16 < (mrgA a b).length) = true := decide_eq_true (by omega)
              have Hs := Lib.hid (show mergeA a b = ([], 6) by rw [Hmrg.out, if_pos (by omega)])
              go_wp2
              go_ret2
              rw [Hs.out]
              exact ⟨_, I', rfl, Hb2.out.trans (Hm.out.below.mono Hb2.out.size), Hm.out.ext.mono Hb2.out.size, hok, RdS.nil _ _⟩
    · obtain ⟨q, hq⟩ : ∃ q, chk b = q := ⟨_, rfl⟩
      have hn0 : (q != 0) = true := by rw [← hq]; simpa using h1
      have Hs := Lib.hid (show mergeA a b = ([], q) by rw [mergeA, if_neg (by have := H0.out; omega), if_pos h1, hq])
      have Hq := Lib.hid hq; clear hq h1
      go_enter Tryd.func16, Tryd.ntmps16
      go_wp2_with fail
      refine (ref32_Check I _ a Hva.out Ha.out _ hw).mono ?_
      rintro e w1 ⟨rfl, hb1⟩
      rw [H0.out]
      have hok1 : Ok I w1 := hw.below (Nat.le_refl _) hb1
      go_wp2_with fail
      refine (ref32_Check I _ b Hvb.out Hb.out _ hok1).mono ?_
      rintro e w2 ⟨rfl, hb2⟩
      rw [Hq.out]
      have hb2' := hb1.trans (hb2.mono hb1.size)
      go_wp2
      go_ret2
      rw [Hs.out]
      exact ⟨_, I, rfl, hb2', Ext.refl _ _, hw.below (Nat.le_refl _) hb2', RdS.nil _ _⟩
  · obtain ⟨q, hq⟩ : ∃ q, chk a = q := ⟨_, rfl⟩
    have hn0 : (q != 0) = true := by rw [← hq]; simpa using h0
    have Hs := Lib.hid (show mergeA a b = ([], q) by rw [mergeA, if_pos h0, hq])
    have Hq := Lib.hid hq; clear hq h0
    go_enter Tryd.func16, Tryd.ntmps16
    go_wp2_with fail
    refine (ref32_Check I _ a Hva.out Ha.out _ hw).mono ?_
    rintro e w1 ⟨rfl, hb1⟩
    rw [Hq.out]
    go_wp2
    go_ret2
    rw [Hs.out]
    exact ⟨_, I, rfl, hb1, Ext.refl _ _, hw.below (Nat.le_refl _) hb1, RdS.nil _ _⟩
end Go.Proofs.YtnnhgmpdfjljbaaDoor
