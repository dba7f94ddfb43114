/-
  Walks of the reference's layer 4: mix.
-/
import Derived.Test.YtmapjaihkmjmmaaDoorBlkS
import Derived.Test.YtmapjaihkmjmmaaDoorTail
namespace Go.Proofs.YtmapjaihkmjmmaaDoor
open Go.RowKit

/-- Four words of a row set. -/
def four (l : List Int) (a b c d : Nat) (va vb vc vd : Int) : List Int := (((l.set a va).set b vb).set c vc).set d vd
theorem four_length (l : List Int) (a b c d : Nat) (va vb vc vd : Int) : (four l a b c d va vb vc vd).length = l.length := by simp [four]
theorem four_self (l : List Int) (a b c d : Nat) (ha : a < l.length) (hb : b < l.length) (hc : c < l.length) (hd : d < l.length) : four l a b c d (l.getD a 0) (l.getD b 0) (l.getD c 0) (l.getD d 0) = l := by
  simp [four, List.getD, ha, hb, hc, hd]

structure Apart (n a b c d : Nat) : Prop where
  la : a < n
  lb : b < n
  lc : c < n
  ld : d < n
  ab : a ≠ b
  ac : a ≠ c
  ad : a ≠ d
  bc : b ≠ c
  bd : b ≠ d
  cd : c ≠ d

section
variable {l : List Int} {a b c d : Nat} {va vb vc vd : Int}
theorem four_seta (h : Apart l.length a b c d) (x : Int) : (four l a b c d va vb vc vd).set a x = four l a b c d x vb vc vd := by
  unfold four
  rw [List.set_comm _ _ h.ad.symm, List.set_comm _ _ h.ac.symm, List.set_comm _ _ h.ab.symm, List.set_set]
theorem four_setb (h : Apart l.length a b c d) (x : Int) : (four l a b c d va vb vc vd).set b x = four l a b c d va x vc vd := by
  unfold four
  rw [List.set_comm _ _ h.bd.symm, List.set_comm _ _ h.bc.symm, List.set_set]
theorem four_setc (h : Apart l.length a b c d) (x : Int) : (four l a b c d va vb vc vd).set c x = four l a b c d va vb x vd := by
  unfold four
  rw [List.set_comm _ _ h.cd.symm, List.set_set]
theorem four_setd (_h : Apart l.length a b c d) (x : Int) : (four l a b c d va vb vc vd).set d x = four l a b c d va vb vc x := by
  unfold four
  rw [List.set_set]
theorem getD_set_ne' {l : List Int} {i j : Nat} (h : i ≠ j) (x : Int) : (l.set i x).getD j 0 = l.getD j 0 := by
  simp [List.getD, List.getElem?_set_ne h]
theorem getD_set_eq' {l : List Int} {i : Nat} (h : i < l.length) (x : Int) : (l.set i x).getD i 0 = x := by
  simp [List.getD, h]
theorem four_a (h : Apart l.length a b c d) : (four l a b c d va vb vc vd).getD a 0 = va := by
  unfold four
  rw [getD_set_ne' h.ad.symm, getD_set_ne' h.ac.symm, getD_set_ne' h.ab.symm, getD_set_eq' h.la]
theorem four_b (h : Apart l.length a b c d) : (four l a b c d va vb vc vd).getD b 0 = vb := by
  unfold four
  rw [getD_set_ne' h.bd.symm, getD_set_ne' h.bc.symm, getD_set_eq' (by simpa using h.lb)]
theorem four_c (h : Apart l.length a b c d) : (four l a b c d va vb vc vd).getD c 0 = vc := by
  unfold four
  rw [getD_set_ne' h.cd.symm, getD_set_eq' (by simpa using h.lc)]
theorem four_d (h : Apart l.length a b c d) : (four l a b c d va vb vc vd).getD d 0 = vd := by
  unfold four
  rw [getD_set_eq' (by simpa using h.ld)]
end

/-- mix's memory: the row with its four words, and the result's row. -/
structure MixM (w : World) (t : TypeId) (l : List Int) (a b c d : Nat) (va vb vc vd : Int) (X : World) : Prop where
  row_ : X.heap[w.heap.size]? = some (.cells (row (four l a b c d va vb vc vd)) t (0, 0))
  zero : X.heap[w.heap.size + 1]? = some (.cells (row (List.replicate 16 0)) t (0, 0))
  below : Below w.heap.size w X

section
variable {w X X' : World} {t : TypeId} {l : List Int} {a b c d : Nat} {va vb vc vd : Int}
theorem MixM.lt (h : MixM w t l a b c d va vb vc vd X) : w.heap.size + 1 < X.heap.size := (Array.getElem?_eq_some_iff.1 h.zero).1
theorem MixM.pass (h : MixM w t l a b c d va vb vc vd X) (hb : Below X.heap.size X X') : MixM w t l a b c d va vb vc vd X' :=
  ⟨(hb.block _ (by have := h.lt; omega)).trans h.row_, (hb.block _ h.lt).trans h.zero, h.below.trans (hb.mono h.below.size)⟩
theorem MixM.cell (h : MixM w t l a b c d va vb vc vd X) (q : Nat) (hq : q < l.length) : X.cell? ⟨w.heap.size, q, none⟩ = some (.int .u32 ((four l a b c d va vb vc vd).getD q 0)) :=
  (cell_of_row X _ q _ _ _ h.row_).trans (row_at (by rw [four_length]; exact hq))
theorem MixM.ca (h : MixM w t l a b c d va vb vc vd X) (k : Apart l.length a b c d) : X.cell? ⟨w.heap.size, a, none⟩ = some (.int .u32 va) := by rw [h.cell a k.la, four_a k]
theorem MixM.cb (h : MixM w t l a b c d va vb vc vd X) (k : Apart l.length a b c d) : X.cell? ⟨w.heap.size, b, none⟩ = some (.int .u32 vb) := by rw [h.cell b k.lb, four_b k]
theorem MixM.cc (h : MixM w t l a b c d va vb vc vd X) (k : Apart l.length a b c d) : X.cell? ⟨w.heap.size, c, none⟩ = some (.int .u32 vc) := by rw [h.cell c k.lc, four_c k]
theorem MixM.cd (h : MixM w t l a b c d va vb vc vd X) (k : Apart l.length a b c d) : X.cell? ⟨w.heap.size, d, none⟩ = some (.int .u32 vd) := by rw [h.cell d k.ld, four_d k]
theorem MixM.fr (h : MixM w t l a b c d va vb vc vd X) (q : Nat) : X.frozen? ⟨w.heap.size, q, none⟩ = false := frozen_of_row X _ q _ _ h.row_
theorem MixM.put (h : MixM w t l a b c d va vb vc vd X) (q : Nat) (x : Int) {L : List Int} (hL : (four l a b c d va vb vc vd).set q x = L) {va' vb' vc' vd' : Int} (hL' : L = four l a b c d va' vb' vc' vd') : MixM w t l a b c d va' vb' vc' vd' (X.setCell ⟨w.heap.size, q, none⟩ (.int .u32 x)) := by
  subst hL'
  refine ⟨?_, ?_, h.below.setCell (p := ⟨w.heap.size, q, none⟩) (Nat.le_refl _) _⟩
  · rw [← hL]; exact heap_setCell x h.row_
  · rw [Below.heap_setCell _ _ _ _ (by simp)]; exact h.zero
theorem MixM.pa (h : MixM w t l a b c d va vb vc vd X) (k : Apart l.length a b c d) (x : Int) : MixM w t l a b c d x vb vc vd (X.setCell ⟨w.heap.size, a, none⟩ (.int .u32 x)) := h.put a x (four_seta k x) rfl
theorem MixM.pb (h : MixM w t l a b c d va vb vc vd X) (k : Apart l.length a b c d) (x : Int) : MixM w t l a b c d va x vc vd (X.setCell ⟨w.heap.size, b, none⟩ (.int .u32 x)) := h.put b x (four_setb k x) rfl
theorem MixM.pc (h : MixM w t l a b c d va vb vc vd X) (k : Apart l.length a b c d) (x : Int) : MixM w t l a b c d va vb x vd (X.setCell ⟨w.heap.size, c, none⟩ (.int .u32 x)) := h.put c x (four_setc k x) rfl
theorem MixM.pd (h : MixM w t l a b c d va vb vc vd X) (k : Apart l.length a b c d) (x : Int) : MixM w t l a b c d va vb vc x (X.setCell ⟨w.heap.size, d, none⟩ (.int .u32 x)) := h.put d x (four_setd k x) rfl
end

theorem ref04_rotate_b (x : Int) (k d m : Int) (hk : RotAt k d m) (w : World) :
    Calls Tryd.prog 83 #[.int .u32 x, .int .u64 k] w fun e w' => e = .returned (.int .u32 (rotr d m x)) ∧ Below w.heap.size w w' :=
  (ref04_rotate x k d m hk w).mono fun _ _ ⟨h1, h2⟩ => ⟨h1, by rw [h2]; exact Below.refl _ _⟩
theorem rotAt16 : RotAt 16 65536 65536 := .inl ⟨rfl, rfl, rfl⟩
theorem rotAt12 : RotAt 12 4096 1048576 := .inr (.inl ⟨rfl, rfl, rfl⟩)
theorem rotAt8 : RotAt 8 256 16777216 := .inr (.inr (.inl ⟨rfl, rfl, rfl⟩))
theorem rotAt7 : RotAt 7 128 33554432 := .inr (.inr (.inr ⟨rfl, rfl, rfl⟩))

theorem list16 {α : Type} : ∀ {l : List α}, l.length = 16 → ∃ a b c d e f g h i j k m n o p q, l = [a, b, c, d, e, f, g, h, i, j, k, m, n, o, p, q]
  | [a, b, c, d, e, f, g, h, i, j, k, m, n, o, p, q], _ => ⟨a, b, c, d, e, f, g, h, i, j, k, m, n, o, p, q, rfl⟩

set_option maxRecDepth 100000 in
set_option maxHeartbeats 2000000 in
theorem ref04_mix (l : List Int) (hl : l.length = 16) (qa qb qc qd : Nat) (x y : Int) (w : World) (hap : Apart 16 qa qb qc qd) :
    Calls Tryd.prog 74 #[.agg (row l), .int .i64 qa, .int .i64 qb, .int .i64 qc, .int .i64 qd, .int .u32 x, .int .u32 y] w fun e w' => e = .returned (.agg (row (mixP l qa qb qc qd x y))) ∧ Below w.heap.size w w' := by
  have Hap : Hid (Apart l.length qa qb qc qd) := Lib.hid (by rw [hl]; exact hap)
  have hM0 : MixM w 85 l qa qb qc qd (l.getD qa 0) (l.getD qb 0) (l.getD qc 0) (l.getD qd 0) ((w.alloc (.cells (row l) 85)).alloc (.cells (row (List.replicate 16 0)) 85)) :=
    ⟨by rw [four_self _ _ _ _ _ Hap.out.la Hap.out.lb Hap.out.lc Hap.out.ld]; exact (Below.heap_alloc (w.alloc (.cells (row l) 85)) (.cells (row (List.replicate 16 0)) 85) w.heap.size (by simp)).trans (heap_alloc_new w (.cells (row l) 85)),
      (by have h := heap_alloc_new (w.alloc (.cells (row l) 85)) (.cells (row (List.replicate 16 0)) 85); rwa [show (w.alloc (.cells (row l) 85)).heap.size = w.heap.size + 1 by simp] at h),
      ((Below.refl w.heap.size w).alloc (Nat.le_refl _) (.cells (row l) 85)).alloc (by simp) (.cells (row (List.replicate 16 0)) 85)⟩
  obtain ⟨va, eva⟩ : ∃ va, l.getD qa 0 = va := ⟨_, rfl⟩
  obtain ⟨vb, evb⟩ : ∃ vb, l.getD qb 0 = vb := ⟨_, rfl⟩
  obtain ⟨vc, evc⟩ : ∃ vc, l.getD qc 0 = vc := ⟨_, rfl⟩
  obtain ⟨vd, evd⟩ : ∃ vd, l.getD qd 0 = vd := ⟨_, rfl⟩
  have Hm := Lib.hid (show mixP l qa qb qc qd x y = four l qa qb qc qd (mixW va vb vc vd x y).1 (mixW va vb vc vd x y).2.1 (mixW va vb vc vd x y).2.2.1 (mixW va vb vc vd x y).2.2.2 by rw [mixP, eva, evb, evc, evd, four])
  rw [eva, evb, evc, evd] at hM0
  clear eva evb evc evd
  have HM := Lib.hid hM0
  clear hM0
  have n1 : (qa : Int) < 16 := by have := hap.la; omega
  have n2 : (qb : Int) < 16 := by have := hap.lb; omega
  have n3 : (qc : Int) < 16 := by have := hap.lc; omega
  have n4 : (qd : Int) < 16 := by have := hap.ld; omega
  clear hap
  obtain ⟨v0, v1, v2, v3, v4, v5, v6, v7, v8, v9, v10, v11, v12, v13, v14, v15, hll⟩ := list16 hl
  have hrow : row l = #[.int .u32 v0, .int .u32 v1, .int .u32 v2, .int .u32 v3, .int .u32 v4, .int .u32 v5, .int .u32 v6, .int .u32 v7, .int .u32 v8, .int .u32 v9, .int .u32 v10, .int .u32 v11, .int .u32 v12, .int .u32 v13, .int .u32 v14, .int .u32 v15] := by rw [hll]; rfl
  have Hll := Lib.hid hll
  have Hrow := Lib.hid hrow
  have Hlen := Lib.hid hl
  clear hll hrow hl
  rw [Hrow.out]
  go_enter Tryd.func74, Tryd.ntmps74
  go_wp2_with fail
  rw [← Hrow.out]
  rw [show (#[.int .u32 0, .int .u32 0, .int .u32 0, .int .u32 0, .int .u32 0, .int .u32 0, .int .u32 0, .int .u32 0, .int .u32 0, .int .u32 0, .int .u32 0, .int .u32 0, .int .u32 0, .int .u32 0, .int .u32 0, .int .u32 0] : Array Value) = row (List.replicate 16 0) from rfl]
  generalize (w.alloc (.cells (row l) 85)).alloc (.cells (row (List.replicate 16 0)) 85) = X at HM ⊢
  clear Hrow Hll
  have g1 := cell_regrown (HM.out.ca Hap.out)
  have g2 := cell_regrown (HM.out.cb Hap.out)
  refine wp_region_below_tail 11 (by kernel_rfl) (by kernel_rfl) ?_
  simp only [List.take_succ_cons, List.take_zero, List.drop_succ_cons, List.drop_zero]
  repeat (go_big_quiet_step ((fail)))
  refine wpQuiet_nil ?_
  intro X1 hwq
  have hbt : Below (X).heap.size (X) X1 := by
    obtain ⟨pq, rfl⟩ := hwq
    exact below_regrown _ _ _
  clear hwq
  have hMt := HM.out.pass hbt
  clear g1 g2 hbt HM
  have HM := Lib.hid hMt
  have g1 := hMt.ca Hap.out
  have g2 := fun q => hMt.fr q
  clear hMt
  go_wp2_with fail
  have hMt := HM.out.pa Hap.out ((va + vb + x) % 4294967296)
  clear HM g1 g2
  obtain ⟨a1, ha1⟩ : ∃ a1, (va + vb + x) % 4294967296 = a1 := ⟨_, rfl⟩
  rw [ha1] at hMt ⊢
  have Ha1 := Lib.hid ha1
  clear ha1
  have HM := Lib.hid hMt
  clear hMt
  generalize X1.setCell _ _ = X at HM ⊢
  have g1 := cell_regrown (HM.out.cd Hap.out)
  have g2 := cell_regrown (HM.out.ca Hap.out)
  refine wp_region_below_tail 10 (by kernel_rfl) (by kernel_rfl) ?_
  simp only [List.take_succ_cons, List.take_zero, List.drop_succ_cons, List.drop_zero]
  repeat (go_big_quiet_step ((exact Calls.regrown_of (ref04_rotate_b _ _ _ _ rotAt16 _))))
  refine wpQuiet_nil ?_
  intro X1 hwq
  have hbt : Below (X).heap.size (X) X1 := by
    obtain ⟨pq, rfl⟩ := hwq
    exact below_regrown _ _ _
  clear hwq
  have hMt := HM.out.pass hbt
  clear g1 g2 hbt HM
  have HM := Lib.hid hMt
  have g1 := hMt.cd Hap.out
  have g2 := fun q => hMt.fr q
  clear hMt
  go_wp2_with fail
  have hMt := HM.out.pd Hap.out (rotr 65536 65536 (bits .xor .u32 vd a1))
  clear HM g1 g2
  obtain ⟨d1, hd1⟩ : ∃ d1, rotr 65536 65536 (bits .xor .u32 vd a1) = d1 := ⟨_, rfl⟩
  rw [hd1] at hMt ⊢
  have Hd1 := Lib.hid hd1
  clear hd1
  have HM := Lib.hid hMt
  clear hMt
  generalize X1.setCell _ _ = X at HM ⊢
  have g1 := cell_regrown (HM.out.cc Hap.out)
  have g2 := cell_regrown (HM.out.cd Hap.out)
  refine wp_region_below_tail 9 (by kernel_rfl) (by kernel_rfl) ?_
  simp only [List.take_succ_cons, List.take_zero, List.drop_succ_cons, List.drop_zero]
  repeat (go_big_quiet_step ((fail)))
  refine wpQuiet_nil ?_
  intro X1 hwq
  have hbt : Below (X).heap.size (X) X1 := by
    obtain ⟨pq, rfl⟩ := hwq
    exact below_regrown _ _ _
  clear hwq
  have hMt := HM.out.pass hbt
  clear g1 g2 hbt HM
  have HM := Lib.hid hMt
  have g1 := hMt.cc Hap.out
  have g2 := fun q => hMt.fr q
  clear hMt
  go_wp2_with fail
  have hMt := HM.out.pc Hap.out ((vc + d1) % 4294967296)
  clear HM g1 g2
  obtain ⟨c1, hc1⟩ : ∃ c1, (vc + d1) % 4294967296 = c1 := ⟨_, rfl⟩
  rw [hc1] at hMt ⊢
  have Hc1 := Lib.hid hc1
  clear hc1
  have HM := Lib.hid hMt
  clear hMt
  generalize X1.setCell _ _ = X at HM ⊢
  have g1 := cell_regrown (HM.out.cb Hap.out)
  have g2 := cell_regrown (HM.out.cc Hap.out)
  refine wp_region_below_tail 10 (by kernel_rfl) (by kernel_rfl) ?_
  simp only [List.take_succ_cons, List.take_zero, List.drop_succ_cons, List.drop_zero]
  repeat (go_big_quiet_step ((exact Calls.regrown_of (ref04_rotate_b _ _ _ _ rotAt12 _))))
  refine wpQuiet_nil ?_
  intro X1 hwq
  have hbt : Below (X).heap.size (X) X1 := by
    obtain ⟨pq, rfl⟩ := hwq
    exact below_regrown _ _ _
  clear hwq
  have hMt := HM.out.pass hbt
  clear g1 g2 hbt HM
  have HM := Lib.hid hMt
  have g1 := hMt.cb Hap.out
  have g2 := fun q => hMt.fr q
  clear hMt
  go_wp2_with fail
  have hMt := HM.out.pb Hap.out (rotr 4096 1048576 (bits .xor .u32 vb c1))
  clear HM g1 g2
  obtain ⟨b1, hb1⟩ : ∃ b1, rotr 4096 1048576 (bits .xor .u32 vb c1) = b1 := ⟨_, rfl⟩
  rw [hb1] at hMt ⊢
  have Hb1 := Lib.hid hb1
  clear hb1
  have HM := Lib.hid hMt
  clear hMt
  generalize X1.setCell _ _ = X at HM ⊢
  have g1 := cell_regrown (HM.out.ca Hap.out)
  have g2 := cell_regrown (HM.out.cb Hap.out)
  refine wp_region_below_tail 11 (by kernel_rfl) (by kernel_rfl) ?_
  simp only [List.take_succ_cons, List.take_zero, List.drop_succ_cons, List.drop_zero]
  repeat (go_big_quiet_step ((fail)))
  refine wpQuiet_nil ?_
  intro X1 hwq
  have hbt : Below (X).heap.size (X) X1 := by
    obtain ⟨pq, rfl⟩ := hwq
    exact below_regrown _ _ _
  clear hwq
  have hMt := HM.out.pass hbt
  clear g1 g2 hbt HM
  have HM := Lib.hid hMt
  have g1 := hMt.ca Hap.out
  have g2 := fun q => hMt.fr q
  clear hMt
  go_wp2_with fail
  have hMt := HM.out.pa Hap.out ((a1 + b1 + y) % 4294967296)
  clear HM g1 g2
  obtain ⟨a2, ha2⟩ : ∃ a2, (a1 + b1 + y) % 4294967296 = a2 := ⟨_, rfl⟩
  rw [ha2] at hMt ⊢
  have Ha2 := Lib.hid ha2
  clear ha2
  have HM := Lib.hid hMt
  clear hMt
  generalize X1.setCell _ _ = X at HM ⊢
  have g1 := cell_regrown (HM.out.cd Hap.out)
  have g2 := cell_regrown (HM.out.ca Hap.out)
  refine wp_region_below_tail 10 (by kernel_rfl) (by kernel_rfl) ?_
  simp only [List.take_succ_cons, List.take_zero, List.drop_succ_cons, List.drop_zero]
  repeat (go_big_quiet_step ((exact Calls.regrown_of (ref04_rotate_b _ _ _ _ rotAt8 _))))
  refine wpQuiet_nil ?_
  intro X1 hwq
  have hbt : Below (X).heap.size (X) X1 := by
    obtain ⟨pq, rfl⟩ := hwq
    exact below_regrown _ _ _
  clear hwq
  have hMt := HM.out.pass hbt
  clear g1 g2 hbt HM
  have HM := Lib.hid hMt
  have g1 := hMt.cd Hap.out
  have g2 := fun q => hMt.fr q
  clear hMt
  go_wp2_with fail
  have hMt := HM.out.pd Hap.out (rotr 256 16777216 (bits .xor .u32 d1 a2))
  clear HM g1 g2
  obtain ⟨d2, hd2⟩ : ∃ d2, rotr 256 16777216 (bits .xor .u32 d1 a2) = d2 := ⟨_, rfl⟩
  rw [hd2] at hMt ⊢
  have Hd2 := Lib.hid hd2
  clear hd2
  have HM := Lib.hid hMt
  clear hMt
  generalize X1.setCell _ _ = X at HM ⊢
  have g1 := cell_regrown (HM.out.cc Hap.out)
  have g2 := cell_regrown (HM.out.cd Hap.out)
  refine wp_region_below_tail 9 (by kernel_rfl) (by kernel_rfl) ?_
  simp only [List.take_succ_cons, List.take_zero, List.drop_succ_cons, List.drop_zero]
  repeat (go_big_quiet_step ((fail)))
  refine wpQuiet_nil ?_
  intro X1 hwq
  have hbt : Below (X).heap.size (X) X1 := by
    obtain ⟨pq, rfl⟩ := hwq
    exact below_regrown _ _ _
  clear hwq
  have hMt := HM.out.pass hbt
  clear g1 g2 hbt HM
  have HM := Lib.hid hMt
  have g1 := hMt.cc Hap.out
  have g2 := fun q => hMt.fr q
  clear hMt
  go_wp2_with fail
  have hMt := HM.out.pc Hap.out ((c1 + d2) % 4294967296)
  clear HM g1 g2
  obtain ⟨c2, hc2⟩ : ∃ c2, (c1 + d2) % 4294967296 = c2 := ⟨_, rfl⟩
  rw [hc2] at hMt ⊢
  have Hc2 := Lib.hid hc2
  clear hc2
  have HM := Lib.hid hMt
  clear hMt
  generalize X1.setCell _ _ = X at HM ⊢
  have g1 := cell_regrown (HM.out.cb Hap.out)
  have g2 := cell_regrown (HM.out.cc Hap.out)
  refine wp_region_below_tail 10 (by kernel_rfl) (by kernel_rfl) ?_
  simp only [List.take_succ_cons, List.take_zero, List.drop_succ_cons, List.drop_zero]
  repeat (go_big_quiet_step ((exact Calls.regrown_of (ref04_rotate_b _ _ _ _ rotAt7 _))))
  refine wpQuiet_nil ?_
  intro X1 hwq
  have hbt : Below (X).heap.size (X) X1 := by
    obtain ⟨pq, rfl⟩ := hwq
    exact below_regrown _ _ _
  clear hwq
  have hMt := HM.out.pass hbt
  clear g1 g2 hbt HM
  have HM := Lib.hid hMt
  have g1 := hMt.cb Hap.out
  have g2 := fun q => hMt.fr q
  clear hMt
  have hMt := HM.out.pb Hap.out (rotr 128 33554432 (bits .xor .u32 b1 c2))
  have hfin : mixP l qa qb qc qd x y = four l qa qb qc qd a2 (rotr 128 33554432 (bits .xor .u32 b1 c2)) c2 d2 := by
    rw [Hm.out]
    simp only [mixW, ← Int.add_assoc, Ha1.out, Hd1.out, Hc1.out, Hb1.out, Ha2.out, Hd2.out, Hc2.out]
  clear Ha1 Hd1 Hc1 Hb1 Ha2 Hd2 Hc2 Hm
  have h0 := hMt.row_
  have h1 := hMt.zero
  have hbw := hMt.below
  have hlen : (four l qa qb qc qd a2 (rotr 128 33554432 (bits .xor .u32 b1 c2)) c2 d2).length = 16 := by rw [four_length, Hlen.out]
  generalize four l qa qb qc qd a2 (rotr 128 33554432 (bits .xor .u32 b1 c2)) c2 d2 = F at h0 hlen hfin
  have Hfin := Lib.hid hfin
  clear hfin
  clear hMt HM
  have hi16 : (Tryd.prog.info? 85).map (·.size) = some (row F).size := by rw [row_size, hlen]; kernel_rfl
  have hz16 : (row (List.replicate 16 0)).size = (row F).size := by rw [row_size, row_size, hlen]; rfl
  have ho16 : (row F).all (·.oneCell') = true := by simp [row, Value.oneCell']
  clear hlen
  go_wp2_with (first
    | (refine wpList_load_row rfl 85 _ rfl w.heap.size rfl 85 (row F) (0, 0) _ h0 Tryd.underlying85 rfl hi16 ?_)
    | (refine wpList_store_row rfl 85 _ _ rfl (w.heap.size + 1) (row F) rfl rfl 85 (row (List.replicate 16 0)) h1 hi16 hz16 ho16 ?_))
  refine bodyPost_ret (results_cell_row rfl _ _ (w.heap.size + 1) _ (row F) (0, 0) _ rfl (setRow_heap _ _ _ _ _ _ h1) Tryd.underlying85 rfl hi16) rfl ⟨by rw [Hfin.out], below_setRow hbw (by omega) _⟩
end Go.Proofs.YtmapjaihkmjmmaaDoor
