/-
  The law CatalogDisjoint: its walk.
-/
import Derived.Test.YtmapjaihkmjmmaaDoorPlainE
import Derived.Test.YtmapjaihkmjmmaaDoorLawC
namespace Go.Proofs.YtmapjaihkmjmmaaDoor
open Go.RowKit

theorem run_eql_range (f t d f' t' d' : Bytes) (n n' : Int) (W : World) : (binOp .eql 37 (.agg #[S f, S t, .int .i64 n, S d]) (.agg #[S f', S t', .int .i64 n', S d'])).run Tryd.prog W = .ok (.bool (decide (f = f' ∧ t = t' ∧ n = n' ∧ d = d'))) W := by
  rw [run_eql_of _ _ [(9, 0, false), (9, 1, false), (3, 2, false), (9, 3, false)] W (by kernel_rfl) (by kernel_rfl) (by kernel_rfl)]
  simp [go_sem]
  by_cases h1 : f = f' <;> by_cases h2 : t = t' <;> by_cases h3 : n = n' <;> by_cases h4 : d = d' <;> simp [h1, h2, h3, h4]

/-- Element i of a slice of bytes, in the walk's spelling. -/
theorem intAt {k : IntKind} {I : IH} {v : Value} {l : List Int} {w : World} (h : RdS (tInt k) I v l) (hw : Ok I w) (i : Nat) (hi : i < l.length) : ∃ s b off cap, l[i] = s ∧ v = .slice (some ⟨b, off, none⟩) l.length cap ∧
    w.cell? ⟨b, off + i, none⟩ = some (.int k s) := by
  obtain ⟨b, off, cap, cs, hv, hcs, hc⟩ := h.at_ hw hi
  have hcs' : cs = [.int k l[i]] := hcs
  subst hcs'
  have := hc 0 _ rfl
  exact ⟨_, b, off, cap, rfl, hv, by simpa [tInt, Ty.flat] using this⟩

/-- What the second loop keeps. -/
structure DjM (l : List Rec) (an : Nat) (I : IH) (w w' : World) (v : Value) (A : List Rec) (I' : IH) : Prop where
  ext : Ext w.heap.size I I'
  ok : Ok I' w'
  rd : RdS tRec I' v A
  dj : Dj l an A
  below : Below w.heap.size w w'

set_option maxRecDepth 100000 in
set_option maxHeartbeats 2000000 in
theorem law_CatalogDisjoint (I : IH) (hI : Glob I) (v : Value) (l : List Rec) (hv : RdS tRec I v l) (hl : ∀ r ∈ l, r.Wf) (an : Nat) (hid : an < 4294967296) (vs : Value) (ns : List Int) (hs : RdS (tInt .u8) I vs ns) (hns : ∀ n ∈ ns, 0 ≤ n ∧ n < 256) (w : World) (hw : Ok I w) :
    Calls Tryd.prog 8 #[v, .int .u32 an, vs] w fun e w' => e = .returned (.bool true) ∧ Below w.heap.size w w' := by
  obtain ⟨ao, cap, rfl, hcap, hcm, _⟩ := id hv
  obtain ⟨ao2, cap2, rfl, hcap2, hcm2, _⟩ := id hs
  have Hv := Lib.hid hv; clear hv
  have Hl := Lib.hid hl; clear hl
  have Hs := Lib.hid hs; clear hs
  have Hns := Lib.hid hns; clear hns
  have hfd : ∀ (a b : Value) (n : Int) (d : Value) (w : World), (Instr.field 37 (.agg #[a, b, .int .i64 n, d]) 2).run Tryd.prog w = .ok (.int .i64 n) w := fun _ _ _ _ _ => by kernel_rfl
  go_enter Tryd.func8, Tryd.ntmps8
  go_wp2_with fail
  refine (law_alive I hI _ hw).mono ?_
  rintro e w1 ⟨rfl, hb1⟩
  have hok1 : Ok I w1 := hw.below (Nat.le_refl _) hb1
  go_wp2_with fail
  refine (ref57_Right I _ l Hv.out Hl.out _ hok1).mono ?_
  rintro e w2 ⟨rfl, hb2⟩
  have hok2 : Ok I w2 := hok1.below (Nat.le_refl _) hb2
  have Hb2 := Lib.hid (hb1.trans (hb2.mono hb1.size))
  clear hb1 hb2 hok1
  rcases right_cases l with h1 | h1
  · obtain ⟨hn, hval, hr⟩ := right_one h1
    rw [h1]
    have Hval := Lib.hid hval
    have Hr := Lib.hid hr
    clear hval hr h1
    by_cases h20 : ns.length ≤ 20
    · have d1 : decide (20 < ns.length) = false := by simp; omega
      by_cases hidm : an = 4294967295
      · have d2 : ((an : Int) == 4294967295) = true := by rw [hidm]; rfl
        clear hidm
        go_wp2
        go_ret
        exact ⟨rfl, Hb2.out⟩
      · have d2 : ((an : Int) == 4294967295) = false := by rw [beq_eq_false_iff_ne]; omega
        have hid2 : an < 4294967295 := by omega
        clear hidm
        go_wp2_with fail
        go_loopw [33] (fun s33 wr => ∃ k : Nat, k ≤ l.length ∧ s33 = .int .i64 k ∧ (∀ x ∈ l.take k, x.a ≠ an) ∧ Below w2.heap.size w2 wr) (fun i _ => l.length - (intOf i).toNat)
        case atStart => exact ⟨0, Nat.zero_le _, rfl, by simp, Below.refl _ _⟩
        case round =>
          obtain ⟨k, hk, rfl, hne, hb⟩ := hrel
          have Hne := Lib.hid hne; clear hne
          have hwr : Ok I wr := hok2.below (Nat.le_refl _) hb
          by_cases hlt : k < l.length
          · obtain ⟨x, b, off, cap', hlx, hvv, hc0, hc1, hc2⟩ := recAt Hv.out hwr k hlt
            cases hvv
            have Hlx := Lib.hid hlx; clear hlx
            by_cases hxa : x.a = an
            · have hq : ((x.a : Int) == (an : Int)) = true := by rw [hxa]; exact beq_self_eq_true _
              clear hxa
              go_wp2
              go_ret
              exact ⟨rfl, Hb2.out.trans ((hb.alloc hb.size _).mono Hb2.out.size)⟩
            · have hq : ((x.a : Int) == (an : Int)) = false := by rw [beq_eq_false_iff_ne]; omega
              have Hne2 := Lib.hid (show ∀ y ∈ l.take (k + 1), y.a ≠ an by
                rw [List.take_succ_eq_append_getElem hlt, Hlx.out]
                intro y hy
                rcases List.mem_append.1 hy with hy | hy
                · exact Hne.out y hy
                · rw [List.mem_singleton] at hy; subst hy; exact hxa)
              clear hxa
              go_wp2
              go_roundw
              case rel => exact ⟨k + 1, by omega, by go_num, Hne2.out, hb.alloc hb.size _⟩
              case measure => simp [intOf]; omega
          · have hdj : Dj l an l := Dj.start Hr.out Hval.out Hl.out (by have := Hne.out; rwa [List.take_of_length_le (by omega)] at this)
            have Hm := Lib.hid (show DjM l an I w2 wr (.slice ao l.length cap) l I from ⟨Ext.refl _ _, hwr, Hv.out, hdj, hb⟩)
            clear Hne hdj
            go_wp2_with fail
            go_loopw [9, 45] (fun s9 s45 wq => ∃ (j : Nat) (A : List Rec) (I' : IH), j ≤ ns.length ∧ s45 = .int .i64 j ∧ A.length ≤ l.length + j ∧ DjM l an I w2 wq s9 A I') (fun _ j _ => ns.length - (intOf j).toNat)
            case atStart => exact ⟨0, l, I, Nat.zero_le _, rfl, by omega, Hm.out⟩
            case round =>
              clear Hm
              obtain ⟨j, A, I', hj, rfl, hAl, hm⟩ := hrel
              have Hm := Lib.hid hm
              have hok := hm.ok
              have hkeep := hm.ext.keep hok2 (Nat.le_refl _)
              have hI' : Glob I' := hI.keep hok2 hm.ext
              have Hv' := Lib.hid (Hv.out.mono hkeep)
              have hA1 : A.length ≤ 1000000 := by omega
              by_cases hltj : j < ns.length
              · obtain ⟨q, b, off, cap', hq, hvv, hc⟩ := intAt (Hs.out.mono hkeep) hok j hltj
                cases hvv
                clear hkeep hm
                have hq' := Hns.out q (by rw [← hq]; exact List.getElem_mem _)
                clear hq
                obtain ⟨hq0, hq1⟩ := hq'
                have hw1 : IntKind.i64.wrap q = q := IntWalk.i64_in _ (by omega)
                have hw2 : IntKind.i64.wrap (1 + q % 255) = 1 + q % 255 := IntWalk.i64_in _ (by omega)
                obtain ⟨A', hadd, hdj', hlen'⟩ := Hm.out.dj.add (s := 1 + q % 255) hid (by omega) (by omega)
                have Hadd := Lib.hid hadd
                have Hdj' := Lib.hid hdj'
                clear hadd hdj'
                go_wp2_with fail
                refine (cat_Add I' hI' _ A Hm.out.rd (fun r hr => Hm.out.dj.wf r hr) hA1 ⟨an, 1 + q % 255, digest0⟩ (recI_wf an _ hid (by omega) (by omega)) _ hok).mono ?_
                rw [Hadd.out]
                rintro e w4 ⟨v4, I4, rfl, hb4, hx4, hok4, hr4⟩
                have Hm4 := Lib.hid (show DjM l an I w2 w4 v4 A' I4 from ⟨Hm.out.ext.trans hx4 Hm.out.below.size, hok4, hr4, Hdj'.out, Hm.out.below.trans (hb4.mono Hm.out.below.size)⟩)
                clear hb4 hx4 hok4 hr4
                go_wp2
                go_roundw
                case rel => exact ⟨j + 1, A', I4, by omega, by go_num, by omega, Hm4.out⟩
                case measure => simp [intOf]; omega
              · clear hkeep hm
                obtain ⟨K1, hK1, hl1, ht1⟩ := key_head an
                obtain ⟨K2, hK2, hl2, ht2⟩ := key_head (an + 1)
                have Hk1 := Lib.hid hK1
                have Hk2 := Lib.hid hK2
                have Ht1 := Lib.hid ht1
                have Ht2 := Lib.hid ht2
                clear hK1 hK2 ht1 ht2
                obtain ⟨ao9, cap9, rfl, hcap9, hcm9, _⟩ := id Hm.out.rd
                go_wp2_with fail
                refine (cat_Key I' hI' ⟨an, 1, digest0⟩ (recI_wf an 1 hid (by omega) (by omega)) _ hok).mono ?_
                rintro e w4 ⟨rfl, hb4⟩
                rw [Hk1.out]
                have hok4 : Ok I' w4 := hok.below (Nat.le_refl _) hb4
                have hwid : IntKind.u32.wrap ((an : Int) + 1) = ((an + 1 : Nat) : Int) := by
                  rw [IntWalk.u32_in _ (by omega)]; rfl
                have hwid2 : ((an : Int) + 1) % 4294967296 = ((an + 1 : Nat) : Int) := by omega
                go_wp2_with fail
                rw [show (an : Int) + 1 = ((an + 1 : Nat) : Int) by omega]
                refine (cat_Key I' hI' ⟨an + 1, 1, digest0⟩ (recI_wf (an + 1) 1 (by omega) (by omega) (by omega)) _ hok4).mono ?_
                rintro e w5 ⟨rfl, hb5⟩
                rw [Hk2.out]
                have hok5 : Ok I' w5 := hok4.below (Nat.le_refl _) hb5
                have Hb5 := Lib.hid (Hm.out.below.trans ((hb4.trans (hb5.mono hb4.size)).mono Hm.out.below.size))
                have hdA := Hm.out.dj.sums hid2
                have hdB := Hm.out.dj.below hid2
                generalize refDigits 10 an [] = F at Ht1 hdA hdB
                generalize refDigits 10 (an + 1) [] = T at Ht2 hdA
                obtain ⟨hs1, hs2⟩ := hdA
                have hq1 : (((recIn A F T).length : Int) == (A.length : Int) - (l.length : Int)) = true := by rw [beq_iff_eq]; omega
                have hq2 : (((recIn l [] F).length : Int) + ((recIn A T []).length : Int) == (l.length : Int)) = true := by rw [← hdB, beq_iff_eq]; omega
                have hw3 : IntKind.i64.wrap ((A.length : Int) - (l.length : Int)) = (A.length : Int) - (l.length : Int) := IntWalk.i64_in _ (by omega)
                have hw4 : IntKind.i64.wrap (((recIn l [] F).length : Int) + ((recIn A T []).length : Int)) = ((recIn l [] F).length : Int) + ((recIn A T []).length : Int) := IntWalk.i64_in _ (by rw [← hdB]; omega)
                have HdB := Lib.hid hdB
                have hbl1 : (recIn A F T).length ≤ 200 := by omega
                have hbl2 : (recIn l [] F).length ≤ 200 := by rw [← hdB]; omega
                have hbl3 : (recIn A T []).length ≤ 200 := by omega
                have heq : ∀ W, (binOp .eql 37 (sumV [] F (recIn l [] F)) (sumV [] F (recIn l [] F))).run Tryd.prog W = .ok (.bool true) W := fun W => by rw [run_eql_range]; simp
                clear hdB hs1 hs2 hb4 hb5 hwid hwid2 hok4 hok
                go_wp2_with fail
                rw [Ht1.out, Ht2.out]
                have hsumA : ∀ (f t : Bytes) (W : World), Ok I' W → Calls Tryd.prog 18 #[.slice ao9 A.length cap9, S f, S t] W fun e w' => e = .returned (sumV f t (recIn A f t)) ∧ Below W.heap.size W w' := fun f t W hW => cat_Summary I' hI' _ A Hm.out.rd (fun r hr => Hm.out.dj.wf r hr) hA1 Hm.out.dj.rises Hm.out.dj.valid f t W hW
                have hsumL : ∀ (f t : Bytes) (W : World), Ok I' W → Calls Tryd.prog 18 #[.slice ao l.length cap, S f, S t] W fun e w' => e = .returned (sumV f t (recIn l f t)) ∧ Below W.heap.size W w' := fun f t W hW => cat_Summary I' hI' _ l Hv'.out Hl.out (by omega) Hr.out Hval.out f t W hW
                have HsA := Lib.hid hsumA
                have HsL := Lib.hid hsumL
                clear hsumA hsumL Ht1 Ht2 Hk1 Hk2 hl1 hl2
                refine (HsA.out F T _ hok5).mono ?_
                rintro e w6 ⟨rfl, hb6⟩
                have hok6 : Ok I' w6 := hok5.below (Nat.le_refl _) hb6
                have Hb6 := Lib.hid (Hb5.out.trans (hb6.mono Hb5.out.size))
                clear hb6 Hb5 hok5
                go_wp2_with fail
                refine (HsA.out [] F _ (hok6.alloc _)).mono ?_
                rintro e w7 ⟨rfl, hb7⟩
                rw [HdB.out]
                have hok7 : Ok I' w7 := (hok6.alloc _).below (Nat.le_refl _) hb7
                have Hb7 := Lib.hid ((Hb6.out.alloc Hb6.out.size _).trans (hb7.mono (by have := Hb6.out.size; simp; omega)))
                clear hb7 Hb6
                go_wp2_with fail
                refine (HsA.out T [] _ hok7).mono ?_
                rintro e w8 ⟨rfl, hb8⟩
                have hok8 : Ok I' w8 := hok7.below (Nat.le_refl _) hb8
                have Hb8 := Lib.hid (Hb7.out.trans (hb8.mono Hb7.out.size))
                clear hb8 Hb7 hok7
                go_wp2_with fail
                refine (HsL.out [] F _ hok8).mono ?_
                rintro e w9 ⟨rfl, hb9⟩
                have hok9 : Ok I' w9 := hok8.below (Nat.le_refl _) hb9
                have Hb9 := Lib.hid (Hb8.out.trans (hb9.mono Hb8.out.size))
                clear hb9 Hb8 hok8
                go_wp2_with fail
                refine (HsA.out [] F _ hok9).mono ?_
                rintro e w10 ⟨rfl, hb10⟩
                rw [HdB.out]
                go_wp2
                go_ret
                exact ⟨rfl, Hb2.out.trans ((Hb9.out.trans (hb10.mono Hb9.out.size)).mono Hb2.out.size)⟩
    · have d1 : decide (20 < ns.length) = true := by simp; omega
      go_wp2
      go_ret
      exact ⟨rfl, Hb2.out⟩
  · rw [h1]
    clear h1
    go_wp2
    go_ret
    exact ⟨rfl, Hb2.out⟩
end Go.Proofs.YtmapjaihkmjmmaaDoor
