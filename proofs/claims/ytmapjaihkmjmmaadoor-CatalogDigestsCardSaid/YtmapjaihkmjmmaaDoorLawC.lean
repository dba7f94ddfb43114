/-
  The law CatalogParts: its walk.
-/
import Derived.Test.YtmapjaihkmjmmaaDoorSum
namespace Go.Proofs.YtmapjaihkmjmmaaDoor
open Go.RowKit

theorem right_one {l : List Rec} (h : recRight l = 1) : l.length ≤ 100 ∧ (∀ r ∈ l, recValid r = 0) ∧ Rises l := by
  unfold recRight at h
  split at h
  · rename_i h'; exact ⟨h'.1, ((recCheck_eq l).1 h'.2).1, ((recCheck_eq l).1 h'.2).2⟩
  · omega
theorem right_cases (l : List Rec) : recRight l = 1 ∨ recRight l = 0 := by
  unfold recRight; split <;> simp

set_option maxRecDepth 100000 in
set_option maxHeartbeats 2000000 in
theorem law_CatalogParts (I : IH) (hI : Glob I) (v : Value) (l : List Rec) (hv : RdS tRec I v l) (hl : ∀ r ∈ l, r.Wf) (f m t : Bytes) (w : World) (hw : Ok I w) :
    Calls Tryd.prog 7 #[v, .agg #[S f, S m, S t]] w fun e w' => e = .returned (.bool true) ∧ Below w.heap.size w w' := by
  obtain ⟨ao, cap, rfl, hcap, hcm, _⟩ := id hv
  have Hv := Lib.hid hv; clear hv
  have Hl := Lib.hid hl; clear hl
  have hfd : ∀ (a b : Value) (n : Int) (d : Value) (w : World), (Instr.field 37 (.agg #[a, b, .int .i64 n, d]) 2).run Tryd.prog w = .ok (.int .i64 n) w := fun _ _ _ _ _ => by kernel_rfl
  go_enter Tryd.func7, Tryd.ntmps7
  go_wp2_with fail
  refine (law_alive I hI _ (hw.alloc _)).mono ?_
  rintro e w1 ⟨rfl, hb1⟩
  have hok1 : Ok I w1 := (hw.alloc _).below (Nat.le_refl _) hb1
  go_wp2_with fail
  refine (ref57_Right I _ l Hv.out Hl.out _ hok1).mono ?_
  rintro e w2 ⟨rfl, hb2⟩
  have hok2 : Ok I w2 := hok1.below (Nat.le_refl _) hb2
  have hb2' := hb1.trans (hb2.mono hb1.size)
  have c0 : w2.cell? ⟨w.heap.size, 0, none⟩ = some (S f) := by rw [hb2'.cell (by simp)]; simp
  have c1 : w2.cell? ⟨w.heap.size, 1, none⟩ = some (S m) := by rw [hb2'.cell (by simp)]; simp
  have c2 : w2.cell? ⟨w.heap.size, 2, none⟩ = some (S t) := by rw [hb2'.cell (by simp)]; simp
  have Hb2 := Lib.hid (((Below.refl _ _).alloc (Nat.le_refl _) _).trans (hb2'.mono (by simp)))
  clear hb1 hb2 hb2' hok1
  rcases right_cases l with h1 | h1
  · obtain ⟨hn, hval, hr⟩ := right_one h1
    rw [h1]
    have Hval := Lib.hid hval
    have Hr := Lib.hid hr
    have Hlen := Lib.hid (fun f t => show (recIn l f t).length ≤ 100 from Nat.le_trans (List.length_filter_le _ _) hn)
    clear hval hr h1
    have hnn : l.length ≤ 1000000 := by omega
    cases d1 : decide (100 < wrap64 (wrap64 ((f.length : Int) + (m.length : Int)) + (t.length : Int)))
    · have Hfm := Lib.hid (bl_total f m)
      have Hmt := Lib.hid (bl_total m t)
      have Has := Lib.hid (fun a b h => bl_asymm (a := a) (b := b) h)
      cases x1 : Op.bytesLess f m
      · cases x2 : (f == m)
        · go_wp2
          go_ret
          exact ⟨rfl, Hb2.out⟩
        · have Hle : Hid (Op.bytesLess m f = false) := Lib.hid (by rw [eq_of_beq x2]; exact bl_irrefl _)
          by_cases ht : t = []
          · have ht1 : t.isEmpty = true := by rw [ht]; rfl
            have ht2 : (!t.isEmpty) = false := by rw [ht]; rfl
            have ht3 : (t == []) = true := by rw [ht]; rfl
            have Hlt := Lib.hid (show t = [] ∨ Op.bytesLess t m = false from .inl ht)
            clear ht
            by_cases hm : m = []
            · have hm1 : m.isEmpty = true := by rw [hm]; rfl
              have hm3 : (m == []) = true := by rw [hm]; rfl
              clear hm
              go_wp2
              go_ret
              exact ⟨rfl, Hb2.out⟩
            · have hm1 : m.isEmpty = false := by cases m <;> simp_all
              have hm3 : (m == []) = false := by simpa using hm
              have hsum := recIn_parts l f m t Hle.out Hlt.out hm
              have h1 := Hlen.out f m
              have h2 := Hlen.out m t
              have hw1 : IntKind.i64.wrap (((recIn l f m).length : Int) + ((recIn l m t).length : Int)) = ((recIn l f m).length : Int) + ((recIn l m t).length : Int) := IntWalk.i64_in _ (by omega)
              have hq1 : (((recIn l f t).length : Int) == ((recIn l f m).length : Int) + ((recIn l m t).length : Int)) = true := by rw [beq_iff_eq]; omega
              have hq2 : (((recIn l [] []).length : Int) == (l.length : Int)) = true := by rw [recIn_whole]; exact beq_self_eq_true _
              clear hm hsum
              go_wp2_with fail
              have k0 := cell_regrown c0
              have k1 := cell_regrown c1
              have k2 := cell_regrown c2
              clear c0 c1 c2
              refine wp_region_quiet_below (by kernel_rfl) (by kernel_rfl) ?_
              repeat (go_big_quiet_step ((with_reducible exact Calls.regrown_of (cat_Summary I hI _ l Hv.out Hl.out hnn Hr.out Hval.out _ _ _ (hok2.below (Nat.le_refl _) (below_regrown _ _ _))))))
              refine wpQuiet_nil ?_
              intro w3 hwq
              have hb3 : Below (w2).heap.size (w2) w3 := by
                obtain ⟨pq, rfl⟩ := hwq
                exact below_regrown _ _ _
              clear hwq
              go_wp2
              go_ret
              exact ⟨rfl, Hb2.out.trans (hb3.mono Hb2.out.size)⟩
          · have ht1 : t.isEmpty = false := by cases t <;> simp_all
            have ht2 : (!t.isEmpty) = true := by rw [ht1]; rfl
            have ht3 : (t == []) = false := by simpa using ht
            clear ht
            cases x3 : Op.bytesLess m t
            · cases x4 : (m == t)
              · go_wp2
                go_ret
                exact ⟨rfl, Hb2.out⟩
              · have Hlt := Lib.hid (show t = [] ∨ Op.bytesLess t m = false from .inr (by rw [eq_of_beq x4]; exact bl_irrefl _))
                by_cases hm : m = []
                · have hm1 : m.isEmpty = true := by rw [hm]; rfl
                  have hm3 : (m == []) = true := by rw [hm]; rfl
                  clear hm
                  go_wp2
                  go_ret
                  exact ⟨rfl, Hb2.out⟩
                · have hm1 : m.isEmpty = false := by cases m <;> simp_all
                  have hm3 : (m == []) = false := by simpa using hm
                  have hsum := recIn_parts l f m t Hle.out Hlt.out hm
                  have h1 := Hlen.out f m
                  have h2 := Hlen.out m t
                  have hw1 : IntKind.i64.wrap (((recIn l f m).length : Int) + ((recIn l m t).length : Int)) = ((recIn l f m).length : Int) + ((recIn l m t).length : Int) := IntWalk.i64_in _ (by omega)
                  have hq1 : (((recIn l f t).length : Int) == ((recIn l f m).length : Int) + ((recIn l m t).length : Int)) = true := by rw [beq_iff_eq]; omega
                  have hq2 : (((recIn l [] []).length : Int) == (l.length : Int)) = true := by rw [recIn_whole]; exact beq_self_eq_true _
                  clear hm hsum
                  go_wp2_with fail
                  have k0 := cell_regrown c0
                  have k1 := cell_regrown c1
                  have k2 := cell_regrown c2
                  clear c0 c1 c2
                  refine wp_region_quiet_below (by kernel_rfl) (by kernel_rfl) ?_
                  repeat (go_big_quiet_step ((with_reducible exact Calls.regrown_of (cat_Summary I hI _ l Hv.out Hl.out hnn Hr.out Hval.out _ _ _ (hok2.below (Nat.le_refl _) (below_regrown _ _ _))))))
                  refine wpQuiet_nil ?_
                  intro w3 hwq
                  have hb3 : Below (w2).heap.size (w2) w3 := by
                    obtain ⟨pq, rfl⟩ := hwq
                    exact below_regrown _ _ _
                  clear hwq
                  go_wp2
                  go_ret
                  exact ⟨rfl, Hb2.out.trans (hb3.mono Hb2.out.size)⟩
            · have Hlt := Lib.hid (show t = [] ∨ Op.bytesLess t m = false from .inr (bl_asymm x3))
              by_cases hm : m = []
              · have hm1 : m.isEmpty = true := by rw [hm]; rfl
                have hm3 : (m == []) = true := by rw [hm]; rfl
                clear hm
                go_wp2
                go_ret
                exact ⟨rfl, Hb2.out⟩
              · have hm1 : m.isEmpty = false := by cases m <;> simp_all
                have hm3 : (m == []) = false := by simpa using hm
                have hsum := recIn_parts l f m t Hle.out Hlt.out hm
                have h1 := Hlen.out f m
                have h2 := Hlen.out m t
                have hw1 : IntKind.i64.wrap (((recIn l f m).length : Int) + ((recIn l m t).length : Int)) = ((recIn l f m).length : Int) + ((recIn l m t).length : Int) := IntWalk.i64_in _ (by omega)
                have hq1 : (((recIn l f t).length : Int) == ((recIn l f m).length : Int) + ((recIn l m t).length : Int)) = true := by rw [beq_iff_eq]; omega
                have hq2 : (((recIn l [] []).length : Int) == (l.length : Int)) = true := by rw [recIn_whole]; exact beq_self_eq_true _
                clear hm hsum
                go_wp2_with fail
                have k0 := cell_regrown c0
                have k1 := cell_regrown c1
                have k2 := cell_regrown c2
                clear c0 c1 c2
                refine wp_region_quiet_below (by kernel_rfl) (by kernel_rfl) ?_
                repeat (go_big_quiet_step ((with_reducible exact Calls.regrown_of (cat_Summary I hI _ l Hv.out Hl.out hnn Hr.out Hval.out _ _ _ (hok2.below (Nat.le_refl _) (below_regrown _ _ _))))))
                refine wpQuiet_nil ?_
                intro w3 hwq
                have hb3 : Below (w2).heap.size (w2) w3 := by
                  obtain ⟨pq, rfl⟩ := hwq
                  exact below_regrown _ _ _
                clear hwq
                go_wp2
                go_ret
                exact ⟨rfl, Hb2.out.trans (hb3.mono Hb2.out.size)⟩
      · have Hle : Hid (Op.bytesLess m f = false) := Lib.hid (bl_asymm x1)
        by_cases ht : t = []
        · have ht1 : t.isEmpty = true := by rw [ht]; rfl
          have ht2 : (!t.isEmpty) = false := by rw [ht]; rfl
          have ht3 : (t == []) = true := by rw [ht]; rfl
          have Hlt := Lib.hid (show t = [] ∨ Op.bytesLess t m = false from .inl ht)
          clear ht
          by_cases hm : m = []
          · have hm1 : m.isEmpty = true := by rw [hm]; rfl
            have hm3 : (m == []) = true := by rw [hm]; rfl
            clear hm
            go_wp2
            go_ret
            exact ⟨rfl, Hb2.out⟩
          · have hm1 : m.isEmpty = false := by cases m <;> simp_all
            have hm3 : (m == []) = false := by simpa using hm
            have hsum := recIn_parts l f m t Hle.out Hlt.out hm
            have h1 := Hlen.out f m
            have h2 := Hlen.out m t
            have hw1 : IntKind.i64.wrap (((recIn l f m).length : Int) + ((recIn l m t).length : Int)) = ((recIn l f m).length : Int) + ((recIn l m t).length : Int) := IntWalk.i64_in _ (by omega)
            have hq1 : (((recIn l f t).length : Int) == ((recIn l f m).length : Int) + ((recIn l m t).length : Int)) = true := by rw [beq_iff_eq]; omega
            have hq2 : (((recIn l [] []).length : Int) == (l.length : Int)) = true := by rw [recIn_whole]; exact beq_self_eq_true _
            clear hm hsum
            go_wp2_with fail
            have k0 := cell_regrown c0
            have k1 := cell_regrown c1
            have k2 := cell_regrown c2
            clear c0 c1 c2
            refine wp_region_quiet_below (by kernel_rfl) (by kernel_rfl) ?_
            repeat (go_big_quiet_step ((with_reducible exact Calls.regrown_of (cat_Summary I hI _ l Hv.out Hl.out hnn Hr.out Hval.out _ _ _ (hok2.below (Nat.le_refl _) (below_regrown _ _ _))))))
            refine wpQuiet_nil ?_
            intro w3 hwq
            have hb3 : Below (w2).heap.size (w2) w3 := by
              obtain ⟨pq, rfl⟩ := hwq
              exact below_regrown _ _ _
            clear hwq
            go_wp2
            go_ret
            exact ⟨rfl, Hb2.out.trans (hb3.mono Hb2.out.size)⟩
        · have ht1 : t.isEmpty = false := by cases t <;> simp_all
          have ht2 : (!t.isEmpty) = true := by rw [ht1]; rfl
          have ht3 : (t == []) = false := by simpa using ht
          clear ht
          cases x3 : Op.bytesLess m t
          · cases x4 : (m == t)
            · go_wp2
              go_ret
              exact ⟨rfl, Hb2.out⟩
            · have Hlt := Lib.hid (show t = [] ∨ Op.bytesLess t m = false from .inr (by rw [eq_of_beq x4]; exact bl_irrefl _))
              by_cases hm : m = []
              · have hm1 : m.isEmpty = true := by rw [hm]; rfl
                have hm3 : (m == []) = true := by rw [hm]; rfl
                clear hm
                go_wp2
                go_ret
                exact ⟨rfl, Hb2.out⟩
              · have hm1 : m.isEmpty = false := by cases m <;> simp_all
                have hm3 : (m == []) = false := by simpa using hm
                have hsum := recIn_parts l f m t Hle.out Hlt.out hm
                have h1 := Hlen.out f m
                have h2 := Hlen.out m t
                have hw1 : IntKind.i64.wrap (((recIn l f m).length : Int) + ((recIn l m t).length : Int)) = ((recIn l f m).length : Int) + ((recIn l m t).length : Int) := IntWalk.i64_in _ (by omega)
                have hq1 : (((recIn l f t).length : Int) == ((recIn l f m).length : Int) + ((recIn l m t).length : Int)) = true := by rw [beq_iff_eq]; omega
                have hq2 : (((recIn l [] []).length : Int) == (l.length : Int)) = true := by rw [recIn_whole]; exact beq_self_eq_true _
                clear hm hsum
                go_wp2_with fail
                have k0 := cell_regrown c0
                have k1 := cell_regrown c1
                have k2 := cell_regrown c2
                clear c0 c1 c2
                refine wp_region_quiet_below (by kernel_rfl) (by kernel_rfl) ?_
                repeat (go_big_quiet_step ((with_reducible exact Calls.regrown_of (cat_Summary I hI _ l Hv.out Hl.out hnn Hr.out Hval.out _ _ _ (hok2.below (Nat.le_refl _) (below_regrown _ _ _))))))
                refine wpQuiet_nil ?_
                intro w3 hwq
                have hb3 : Below (w2).heap.size (w2) w3 := by
                  obtain ⟨pq, rfl⟩ := hwq
                  exact below_regrown _ _ _
                clear hwq
                go_wp2
                go_ret
                exact ⟨rfl, Hb2.out.trans (hb3.mono Hb2.out.size)⟩
          · have Hlt := Lib.hid (show t = [] ∨ Op.bytesLess t m = false from .inr (bl_asymm x3))
            by_cases hm : m = []
            · have hm1 : m.isEmpty = true := by rw [hm]; rfl
              have hm3 : (m == []) = true := by rw [hm]; rfl
              clear hm
              go_wp2
              go_ret
              exact ⟨rfl, Hb2.out⟩
            · have hm1 : m.isEmpty = false := by cases m <;> simp_all
              have hm3 : (m == []) = false := by simpa using hm
              have hsum := recIn_parts l f m t Hle.out Hlt.out hm
              have h1 := Hlen.out f m
              have h2 := Hlen.out m t
              have hw1 : IntKind.i64.wrap (((recIn l f m).length : Int) + ((recIn l m t).length : Int)) = ((recIn l f m).length : Int) + ((recIn l m t).length : Int) := IntWalk.i64_in _ (by omega)
              have hq1 : (((recIn l f t).length : Int) == ((recIn l f m).length : Int) + ((recIn l m t).length : Int)) = true := by rw [beq_iff_eq]; omega
              have hq2 : (((recIn l [] []).length : Int) == (l.length : Int)) = true := by rw [recIn_whole]; exact beq_self_eq_true _
              clear hm hsum
              go_wp2_with fail
              have k0 := cell_regrown c0
              have k1 := cell_regrown c1
              have k2 := cell_regrown c2
              clear c0 c1 c2
              refine wp_region_quiet_below (by kernel_rfl) (by kernel_rfl) ?_
              repeat (go_big_quiet_step ((with_reducible exact Calls.regrown_of (cat_Summary I hI _ l Hv.out Hl.out hnn Hr.out Hval.out _ _ _ (hok2.below (Nat.le_refl _) (below_regrown _ _ _))))))
              refine wpQuiet_nil ?_
              intro w3 hwq
              have hb3 : Below (w2).heap.size (w2) w3 := by
                obtain ⟨pq, rfl⟩ := hwq
                exact below_regrown _ _ _
              clear hwq
              go_wp2
              go_ret
              exact ⟨rfl, Hb2.out.trans (hb3.mono Hb2.out.size)⟩
    · go_wp2
      go_ret
      exact ⟨rfl, Hb2.out⟩
  · rw [h1]
    clear h1
    go_wp2
    go_ret
    exact ⟨rfl, Hb2.out⟩
end Go.Proofs.YtmapjaihkmjmmaaDoor
