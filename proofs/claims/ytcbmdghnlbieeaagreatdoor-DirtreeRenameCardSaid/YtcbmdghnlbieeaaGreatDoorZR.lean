/-
  Walks of layer 37: List, the program's and the reference's.
  Walks of layer 37: the attribute text, the program's and the reference's.
  Walks of layer 37: the names of the kinds: a map that a call makes and reads.
  Walks of layer 37: the reference's digest of a tree: merkle.
  Walks of layer 37: the program's digest of a tree: Digest's closure.
  Walks of layer 37: Digest, the reference's and the program's.
-/
import Derived.Test.YtcbmdghnlbieeaaGreatDoorZL
import Derived.Test.YtcbmdghnlbieeaaGreatDoorZK
import Derived.Test.YtcbmdghnlbieeaaGreatDoorZJ
import Derived.Test.YtcbmdghnlbieeaaGreatDoorZO
import Derived.MapKept
import Derived.Carry
import Derived.Test.YtcbmdghnlbieeaaGreatDoorZQ
import Derived.Laws.EntriesVeiled
namespace Go.Proofs.YtcbmdghnlbieeaaGreatDoor
open Go.RowKit

/-- What List returns. -/
def listE (t : List Ent) (p : Bytes) : List Ent × Int := if dirErr t p = 0 then (listT t p, 0) else ([], dirErr t p)
def fL (p : Bytes) (x : Ent) : Bool := decide (pathErr x.path = 0) && decide (x.path ≠ []) && (upP x.path == p)
theorem listT_fL (t : List Ent) (p : Bytes) : listT t p = t.filter (fL p) := rfl
theorem fL_par {p q : Bytes} {n : Int} {x : Ent} (h : parP x.path = (q, n)) : (n = 0 ∧ fL p x = (q == p)) ∨ (n ≠ 0 ∧ fL p x = false) := by
  unfold parP at h
  unfold fL
  by_cases h1 : pathErr x.path ≠ 0
  · rw [if_pos h1] at h
    cases h
    exact .inr ⟨h1, by rw [decide_eq_false h1]; rfl⟩
  · rw [if_neg h1] at h
    by_cases h2 : x.path = []
    · rw [if_pos h2] at h
      cases h
      exact .inr ⟨by decide, by rw [h2]; simp⟩
    · rw [if_neg h2] at h
      cases h
      have h1' : pathErr x.path = 0 := by omega
      exact .inl ⟨rfl, by rw [decide_eq_true h1', decide_eq_true h2]; rfl⟩
theorem filtE_succ (f : Ent → Bool) {a : List Ent} {k : Nat} (hk : k < a.length) {x : Ent} (hx : a[k] = x) : (a.take (k + 1)).filter f = (a.take k).filter f ++ (if f x then [x] else []) := by
  rw [List.take_succ_eq_append_getElem hk, hx, List.filter_append]
  cases h : f x <;> simp [h]
theorem iteE_yes {α : Type} {T U : List α} {c : Bool} {p : α} (h : T = U ++ (if c = true then [p] else [])) (hc : c = true) : T = U ++ [p] := by rw [h, if_pos hc]
theorem iteE_no {α : Type} {T U : List α} {c : Bool} {p : α} (h : T = U ++ (if c = true then [p] else [])) (hc : c = false) : T = U := by rw [h, hc, if_neg (by simp), List.append_nil]
theorem filtE_len (f : Ent → Bool) (a : List Ent) (k : Nat) : ((a.take k).filter f).length ≤ k := Nat.le_trans (List.length_filter_le _ _) (by simp; omega)

set_option maxRecDepth 100000 in
set_option maxHeartbeats 2000000 in
theorem ref37_List (I : IH) (_hI : Glob I) (v : Value) (t : List Ent) (hv : RdS tEnt I v t) (hst : SmlT t) (hn : t.length ≤ 100000) (p : Bytes) (w : World) (hw : Ok I w) :
    Calls Tryz.prog 26 #[v, S p] w (RetL tEnt I w (listE t p).1 (listE t p).2) := by
  have Hdi := Lib.hid (fun w hw => ref37_dir I v t hv p w hw)
  obtain ⟨ao, cap, rfl, hcap, hcm, _⟩ := id hv
  have Hv := Lib.hid hv
  have Hs := Lib.hid hst
  have Hfr := Lib.hid (fun b (hb : w.heap.size ≤ b) => hw.fresh (b := b) hb)
  clear hv hst
  by_cases hd : dirErr t p = 0
  case neg =>
    have Hn := Lib.hid (show listE t p = ([], dirErr t p) by rw [listE, if_neg hd])
    have hne : (dirErr t p != 0) = true := by simpa using hd
    generalize dirErr t p = q at Hdi Hn hne
    clear hd
    go_enter Tryz.func26, Tryz.ntmps26
    go_wp2_with fail
    refine (Hdi.out _ hw).mono ?_
    rintro e w1 ⟨rfl, hb1⟩
    go_wp2
    go_ret2
    rw [Hn.out]
    exact ⟨_, I, rfl, hb1, Ext.refl _ _, hw.below (Nat.le_refl _) hb1, RdS.nil _ _⟩
  have Hn := Lib.hid (show listE t p = (t.filter (fL p), 0) by rw [listE, if_pos hd]; rfl)
  rw [hd] at Hdi
  clear hd
  go_enter Tryz.func26, Tryz.ntmps26
  go_wp2_with fail
  refine (Hdi.out _ hw).mono ?_
  rintro e w1 ⟨rfl, hb1⟩
  have hok1 : Ok I w1 := hw.below (Nat.le_refl _) hb1
  have hs1 := hb1.size
  go_wp2_with fail
  go_loopw [7, 21] (fun s7 s20 wr => ∃ k : Nat, k ≤ t.length ∧ s20 = .int .i64 k ∧ OwnS tEnt 26 I wr w.heap.size s7 ((t.take k).filter (fL p)) ∧ Below w.heap.size w wr) (fun _ i _ => t.length - (intOf i).toNat)
  case atStart => exact ⟨0, Nat.zero_le _, rfl, (own_empty w1 _ rfl).lower hs1, hb1.alloc hb1.size _⟩
  case round =>
    clear hb1 hok1 hs1
    obtain ⟨k, hk, rfl, hown, hb⟩ := hrel
    have Hown := Lib.hid hown
    clear hown
    have hwr : Ok I wr := hw.below (Nat.le_refl _) hb
    have hfl := filtE_len (fL p) t k
    by_cases hlt : k < t.length
    · obtain ⟨x, va, vx, bb, off, cap', hlx, hvv, ⟨c0, c1, c2, c3, c4, c5, c6⟩, h1, h2⟩ := entAt Hv.out hwr k hlt
      cases hvv
      obtain ⟨xa, xc, rfl, _, _, _⟩ := id h1
      obtain ⟨xx, xd, rfl, _, _, _⟩ := id h2
      have Hxr := Lib.hid (show tEnt.rd I (entCs x (.slice xa x.attrs.length xc) (.slice xx x.exts.length xd)) x from ⟨_, _, rfl, h1, h2⟩)
      have Hst := Lib.hid (filtE_succ (fL p) hlt hlx)
      have Hxs := Lib.hid (Hs.out x (by rw [← hlx]; exact List.getElem_mem hlt))
      obtain ⟨q, n, hpq⟩ : ∃ q n, parP x.path = (q, n) := ⟨_, _, rfl⟩
      have Hpar := Lib.hid (fun w hw => ref31_Parent I x.path w hw)
      rw [hpq] at Hpar
      have Hpc := Lib.hid (fL_par (p := p) hpq)
      clear hlx h1 h2 hpq
      go_wp2_with fail
      refine (Hpar.out _ (hwr.alloc _)).mono ?_
      rintro e1 w2 ⟨rfl, hb2⟩
      have HX := Lib.hid (entB (e := x) rfl hb2)
      have hb2' := (hb.alloc hb.size (.cells #[.int .i64 x.kind, S x.path, .slice xa x.attrs.length xc, S x.target, .int .i64 x.size, S x.digest, .slice xx x.exts.length xd] 26)).trans (hb2.mono (by have := hb.size; simp; omega))
      have Hown2 := Lib.hid ((Hown.out.alloc (.cells #[.int .i64 x.kind, S x.path, .slice xa x.attrs.length xc, S x.target, .int .i64 x.size, S x.digest, .slice xx x.exts.length xd] 26)).below hb2)
      have hs2 := hb2'.size
      clear hb2 c0 c1 c2 c3 c4 c5 c6 Hown
      obtain ⟨x0, x1, x2, x3, x4, x5, x6⟩ := HX.out
      have hgc := Hpc.out
      rcases hgc with ⟨rfl, hd⟩ | ⟨hnz, hd⟩
      · cases hqp : (q == p)
        · have Hn2 := Lib.hid (iteE_no Hst.out (hd.trans hqp))
          clear hd
          go_wp2
          go_roundw
          case rel => exact ⟨k + 1, by omega, by go_num, (by rw [Hn2.out]; exact Hown2.out), hb2'⟩
          case measure => simp [intOf]; omega
        · have Hn2 := Lib.hid (iteE_yes Hst.out (hd.trans hqp))
          clear hd
          go_wp2_with (at_builtin; refine wpList_append1 (w0 := w2) ent_elem rfl _ _ rfl _ _ _ rfl Hown2.out x (entCs x (.slice xa x.attrs.length xc) (.slice xx x.exts.length xd)) _ rfl Hxr.out (by omega) (by omega) hs2 ?_)
          intro v9 w9 hown9 hg9
          have hb9 := Below.own hb2' hg9 Hown2.out (Nat.le_refl _) hs2
          go_wp2
          go_roundw
          case rel => exact ⟨k + 1, by omega, by go_num, (by rw [Hn2.out]; exact hown9), hb9⟩
          case measure => simp [intOf]; omega
      · have hn0 : ((n : Int) == 0) = false := by simpa using hnz
        have Hn2 := Lib.hid (iteE_no Hst.out hd)
        clear hd hnz
        go_wp2
        go_roundw
        case rel => exact ⟨k + 1, by omega, by go_num, (by rw [Hn2.out]; exact Hown2.out), hb2'⟩
        case measure => simp [intOf]; omega
    · have hall : t.take k = t := List.take_of_length_le (by omega)
      rw [hall] at Hown
      clear hall hfl
      go_wp2
      go_ret2
      rw [Hn.out]
      obtain ⟨I', hI1, hI2, hI3, _⟩ := Hown.out.freeze hwr Hfr.out
      exact ⟨_, I', rfl, hb, hI1, hI2, hI3⟩
set_option maxRecDepth 100000 in
set_option maxHeartbeats 2000000 in
theorem dt_List (I : IH) (hI : Glob I) (v : Value) (t : List Ent) (hv : RdS tEnt I v t) (hst : SmlT t) (hn : t.length ≤ 100000) (p : Bytes) (w : World) (hw : Ok I w) :
    Calls Tryz.prog 25 #[v, S p] w (RetL tEnt I w (listE t p).1 (listE t p).2) := by
  have Hdi := Lib.hid (fun w hw => dt_directory I v t hv p w hw)
  obtain ⟨ao, cap, rfl, hcap, hcm, _⟩ := id hv
  have Hv := Lib.hid hv
  have Hs := Lib.hid hst
  have Hfr := Lib.hid (fun b (hb : w.heap.size ≤ b) => hw.fresh (b := b) hb)
  clear hv hst
  by_cases hd : dirErr t p = 0
  case neg =>
    have Hn := Lib.hid (show listE t p = ([], dirErr t p) by rw [listE, if_neg hd])
    have hne : (dirErr t p != 0) = true := by simpa using hd
    generalize dirErr t p = q at Hdi Hn hne
    clear hd
    go_enter Tryz.func25, Tryz.ntmps25
    go_wp2_with fail
    refine (Hdi.out _ hw).mono ?_
    rintro e w1 ⟨rfl, hb1⟩
    go_wp2
    go_ret2
    rw [Hn.out]
    exact ⟨_, I, rfl, hb1, Ext.refl _ _, hw.below (Nat.le_refl _) hb1, RdS.nil _ _⟩
  have Hn := Lib.hid (show listE t p = (t.filter (fL p), 0) by rw [listE, if_pos hd]; rfl)
  rw [hd] at Hdi
  clear hd
  go_enter Tryz.func25, Tryz.ntmps25
  go_wp2_with fail
  refine (Hdi.out _ hw).mono ?_
  rintro e w1 ⟨rfl, hb1⟩
  have hok1 : Ok I w1 := hw.below (Nat.le_refl _) hb1
  have hs1 := hb1.size
  go_wp2_with fail
  go_loopw [7, 20] (fun s7 s20 wr => ∃ k : Nat, k ≤ t.length ∧ s20 = .int .i64 k ∧ OwnS tEnt 26 I wr w.heap.size s7 ((t.take k).filter (fL p)) ∧ Below w.heap.size w wr) (fun _ i _ => t.length - (intOf i).toNat)
  case atStart => exact ⟨0, Nat.zero_le _, rfl, OwnS.nil _ _ _ _ _, hb1⟩
  case round =>
    clear hb1 hok1 hs1
    obtain ⟨k, hk, rfl, hown, hb⟩ := hrel
    have Hown := Lib.hid hown
    clear hown
    have hwr : Ok I wr := hw.below (Nat.le_refl _) hb
    have hfl := filtE_len (fL p) t k
    by_cases hlt : k < t.length
    · obtain ⟨x, va, vx, bb, off, cap', hlx, hvv, ⟨c0, c1, c2, c3, c4, c5, c6⟩, h1, h2⟩ := entAt Hv.out hwr k hlt
      cases hvv
      obtain ⟨xa, xc, rfl, _, _, _⟩ := id h1
      obtain ⟨xx, xd, rfl, _, _, _⟩ := id h2
      have Hxr := Lib.hid (show tEnt.rd I (entCs x (.slice xa x.attrs.length xc) (.slice xx x.exts.length xd)) x from ⟨_, _, rfl, h1, h2⟩)
      have Hst := Lib.hid (filtE_succ (fL p) hlt hlx)
      have Hxs := Lib.hid (Hs.out x (by rw [← hlx]; exact List.getElem_mem hlt))
      obtain ⟨q, n, hpq⟩ : ∃ q n, parP x.path = (q, n) := ⟨_, _, rfl⟩
      have Hpar := Lib.hid (fun w hw => pn_Parent I hI x.path Hxs.out.1 w hw)
      rw [hpq] at Hpar
      have Hpc := Lib.hid (fL_par (p := p) hpq)
      clear hlx h1 h2 hpq
      go_wp2_with fail
      refine (Hpar.out _ (hwr.alloc _)).mono ?_
      rintro e1 w2 ⟨rfl, hb2⟩
      have HX := Lib.hid (entB (e := x) rfl hb2)
      have hb2' := (hb.alloc hb.size (.cells #[.int .i64 x.kind, S x.path, .slice xa x.attrs.length xc, S x.target, .int .i64 x.size, S x.digest, .slice xx x.exts.length xd] 26)).trans (hb2.mono (by have := hb.size; simp; omega))
      have Hown2 := Lib.hid ((Hown.out.alloc (.cells #[.int .i64 x.kind, S x.path, .slice xa x.attrs.length xc, S x.target, .int .i64 x.size, S x.digest, .slice xx x.exts.length xd] 26)).below hb2)
      have hs2 := hb2'.size
      clear hb2 c0 c1 c2 c3 c4 c5 c6 Hown
      obtain ⟨x0, x1, x2, x3, x4, x5, x6⟩ := HX.out
      have hgc := Hpc.out
      rcases hgc with ⟨rfl, hd⟩ | ⟨hnz, hd⟩
      · cases hqp : (q == p)
        · have Hn2 := Lib.hid (iteE_no Hst.out (hd.trans hqp))
          clear hd
          go_wp2
          go_roundw
          case rel => exact ⟨k + 1, by omega, by go_num, (by rw [Hn2.out]; exact Hown2.out), hb2'⟩
          case measure => simp [intOf]; omega
        · have Hn2 := Lib.hid (iteE_yes Hst.out (hd.trans hqp))
          clear hd
          go_wp2_with (at_builtin; refine wpList_append1 (w0 := w2) ent_elem rfl _ _ rfl _ _ _ rfl Hown2.out x (entCs x (.slice xa x.attrs.length xc) (.slice xx x.exts.length xd)) _ rfl Hxr.out (by omega) (by omega) hs2 ?_)
          intro v9 w9 hown9 hg9
          have hb9 := Below.own hb2' hg9 Hown2.out (Nat.le_refl _) hs2
          go_wp2
          go_roundw
          case rel => exact ⟨k + 1, by omega, by go_num, (by rw [Hn2.out]; exact hown9), hb9⟩
          case measure => simp [intOf]; omega
      · have hn0 : ((n : Int) == 0) = false := by simpa using hnz
        have Hn2 := Lib.hid (iteE_no Hst.out hd)
        clear hd hnz
        go_wp2
        go_roundw
        case rel => exact ⟨k + 1, by omega, by go_num, (by rw [Hn2.out]; exact Hown2.out), hb2'⟩
        case measure => simp [intOf]; omega
    · have hall : t.take k = t := List.take_of_length_le (by omega)
      rw [hall] at Hown
      clear hall hfl
      go_wp2
      go_ret2
      rw [Hn.out]
      obtain ⟨I', hI1, hI2, hI3, _⟩ := Hown.out.freeze hwr Hfr.out
      exact ⟨_, I', rfl, hb, hI1, hI2, hI3⟩
end Go.Proofs.YtcbmdghnlbieeaaGreatDoor
namespace Go.Proofs.YtcbmdghnlbieeaaGreatDoor
open Go.RowKit

/-- The attribute text up to k attributes. -/
def attK (l : List At) (k : Nat) : Bytes := numP l.length ++ (l.take k).flatMap fun a => netP a.k ++ netP a.v
theorem attK_succ {l : List At} {k : Nat} (hk : k < l.length) {x : At} (hx : l[k] = x) : attK l (k + 1) = attK l k ++ (netP x.k ++ netP x.v) := by
  rw [attK, attK, List.take_succ_eq_append_getElem hk, hx, List.flatMap_append, ← List.append_assoc]
  simp
theorem attK_all (l : List At) {k : Nat} (h : l.length ≤ k) : attK l k = attP l := by rw [attK, attP, List.take_of_length_le h]
theorem attK_len {l : List At} (hn : l.length ≤ 16) (h : ∀ a ∈ l, a.k.length ≤ 32 ∧ a.v.length ≤ 64) (k : Nat) : (attK l k).length ≤ 2300 := by
  have h1 := attF_len (l.take k) fun a ha => h a (List.mem_of_mem_take ha)
  have h2 := numP_len l.length (by omega)
  have h3 : (l.take k).length ≤ l.length := by simp; omega
  unfold attK
  rw [List.length_append]
  omega

set_option maxRecDepth 100000 in
set_option maxHeartbeats 1000000 in
theorem ref37_attrs (I : IH) (v : Value) (l : List At) (hv : RdS tAt I v l) (hn : l.length ≤ 16) (ha : ∀ a ∈ l, a.k.length ≤ 32 ∧ a.v.length ≤ 64) (w : World) (hw : Ok I w) :
    Calls Tryz.prog 98 #[v] w fun e w' => e = .returned (S (attP l)) ∧ Below w.heap.size w w' := by
  obtain ⟨ao, cap, rfl, hcap, hcm, _⟩ := id hv
  have Hv := Lib.hid hv
  have Ha := Lib.hid ha
  have Hl := Lib.hid (attK_len hn ha)
  have Hz := Lib.hid (show numP l.length = attK l 0 by rw [attK, List.take_zero, List.flatMap_nil, List.append_nil])
  clear hv ha
  go_enter Tryz.func98, Tryz.ntmps98
  go_wp2_with fail
  refine (ref02_Number l.length (by omega) _).mono ?_
  rintro e w1 ⟨rfl, hb1⟩
  rw [Hz.out]
  go_wp2_with fail
  go_loopw [3, 11] (fun s3 s11 wr => ∃ k : Nat, k ≤ l.length ∧ s11 = .int .i64 k ∧ s3 = S (attK l k) ∧ Below w.heap.size w wr) (fun _ i _ => l.length - (intOf i).toNat)
  case atStart => exact ⟨0, Nat.zero_le _, rfl, rfl, hb1⟩
  case round =>
    clear hb1
    obtain ⟨k, hk, rfl, rfl, hb⟩ := hrel
    have hwr : Ok I wr := hw.below (Nat.le_refl _) hb
    have hal := Hl.out k
    by_cases hlt : k < l.length
    · obtain ⟨x, b, off, cap', hlx, hvv, c0, c1⟩ := atAt Hv.out hwr k hlt
      cases hvv
      have hax := Ha.out x (by rw [← hlx]; exact List.getElem_mem hlt)
      have Hst := Lib.hid (attK_succ hlt hlx)
      have hk1 := netP_len x.k (by omega)
      have hk2 := netP_len x.v (by omega)
      have Hs1 := Lib.hid (fun w => ref02_String x.k (by omega) w)
      have Hs2 := Lib.hid (fun w => ref02_String x.v (by omega) w)
      clear hlx
      generalize netP x.k = p at Hst hk1 Hs1
      generalize netP x.v = q at Hst hk2 Hs2
      generalize attK l k = u at Hst hal ⊢
      have p0 : (wr.alloc (.cells #[S x.k, S x.v] 90)).cell? ⟨wr.heap.size, 0, none⟩ = some (S x.k) := by simp
      have p1 : (wr.alloc (.cells #[S x.k, S x.v] 90)).cell? ⟨wr.heap.size, 1, none⟩ = some (S x.v) := by simp
      have x0 := cell_regrown p0
      have x1 := cell_regrown p1
      have hba := hb.alloc hb.size (.cells #[S x.k, S x.v] 90)
      go_wp2_with fail
      refine wp_region_quiet_below (by kernel_rfl) (by kernel_rfl) ?_
      repeat (go_big_quiet_step ((with_reducible first | exact Calls.regrown_of (Hs1.out _) | exact Calls.regrown_of (Hs2.out _))))
      refine wpQuiet_nil ?_
      intro w2 hwq
      have hb2 : Below ((wr.alloc (.cells #[S x.k, S x.v] 90))).heap.size ((wr.alloc (.cells #[S x.k, S x.v] 90))) w2 := by
        obtain ⟨pq, rfl⟩ := hwq
        exact below_regrown _ _ _
      clear hwq
      go_wp2
      go_roundw
      case rel => exact ⟨k + 1, by omega, by go_num, (by rw [Hst.out]), hba.trans (hb2.mono hba.size)⟩
      case measure => simp [intOf]; omega
    · have Hn := Lib.hid (attK_all l (k := k) (by omega))
      go_wp2
      go_ret
      exact ⟨ret_s Hn.out, hb⟩

set_option maxRecDepth 100000 in
set_option maxHeartbeats 1000000 in
theorem dt_attributes (I : IH) (hI : Glob I) (v : Value) (l : List At) (hv : RdS tAt I v l) (hn : l.length ≤ 16) (ha : ∀ a ∈ l, a.k.length ≤ 32 ∧ a.v.length ≤ 64) (w : World) (hw : Ok I w) :
    Calls Tryz.prog 59 #[v] w fun e w' => e = .returned (S (attP l)) ∧ Below w.heap.size w w' := by
  obtain ⟨ao, cap, rfl, hcap, hcm, _⟩ := id hv
  have Hv := Lib.hid hv
  have Ha := Lib.hid ha
  have Hl := Lib.hid (attK_len hn ha)
  have hz : numP l.length = attK l 0 := by rw [attK, List.take_zero, List.flatMap_nil, List.append_nil]
  have hl0 := attK_len hn ha 0
  have Hfr := Lib.hid (show Lib.IsBuilder 94 5 w.heap.size w.heap.size (Lib.byteCells []) (w.alloc (.cells #[.pointer none, .slice none 0 0] 94)) from Lib.fresh_isBuilder _ _ w)
  have Hnu := Lib.hid (fun w hw => net_Number I hI l.length (by omega) w hw)
  rw [hz] at Hnu
  clear hv ha hz
  go_enter Tryz.func59, Tryz.ntmps59
  go_wp2_with fail
  refine (Hnu.out _ (hw.alloc _)).mono ?_
  rintro e w1 ⟨rfl, hb1⟩
  have hbd1 := builder_below Hfr.out hb1
  have hsz1 : w.heap.size < w1.heap.size := by have := hb1.size; simp at this; omega
  have hb1' : Below w.heap.size w w1 := ((Below.refl _ _).alloc (Nat.le_refl _) _).trans (hb1.mono (by simp))
  clear hb1 Hfr
  go_wp2_with fail
  refine (Tryz.Builder_WriteString w.heap.size w.heap.size _ _ _ hbd1 (by rw [ByteArray.size_mk', List.size_toArray]; simp [Lib.byteCells]; omega) (by omega)).mono ?_
  rintro e w2 ⟨rfl, hbd2, hb2⟩
  have hsz2 := hbd2.lt
  have Hbd2 : Hid (Lib.IsBuilder 94 5 w.heap.size w.heap.size (Lib.byteCells (attK l 0)) w2) := Lib.hid (.inr (by
    have := hbd2
    rw [Lib.strCells_toArray, Lib.byteCells, List.map_nil, List.nil_append] at this
    exact this))
  have Hb2 := Lib.hid (hb1'.trans hb2)
  clear hbd1 hbd2 hb1' hb2
  go_wp2_with fail
  go_loopw [12] (fun s12 wr => ∃ k : Nat, k ≤ l.length ∧ s12 = .int .i64 k ∧ Lib.IsBuilder 94 5 w.heap.size w.heap.size (Lib.byteCells (attK l k)) wr ∧ Below w.heap.size w wr ∧ w.heap.size < wr.heap.size) (fun i _ => l.length - (intOf i).toNat)
  case atStart => exact ⟨0, Nat.zero_le _, rfl, Hbd2.out, Hb2.out, hsz2⟩
  case round =>
    clear Hbd2 Hb2 hsz1 hsz2
    obtain ⟨k, hk, rfl, hbd, hb, hsz⟩ := hrel
    have Hbd := Lib.hid hbd; clear hbd
    have hwr : Ok I wr := hw.below (Nat.le_refl _) hb
    have hal := Hl.out k
    by_cases hlt : k < l.length
    · obtain ⟨x, b, off, cap', hlx, hvv, c0, c1⟩ := atAt Hv.out hwr k hlt
      cases hvv
      have hax := Ha.out x (by rw [← hlx]; exact List.getElem_mem hlt)
      have Hst := Lib.hid (attK_succ hlt hlx)
      have hk1 := netP_len x.k (by omega)
      have hk2 := netP_len x.v (by omega)
      have hns : netsP [x.k, x.v] = netP x.k ++ netP x.v := by simp [netsP]
      have Hs := Lib.hid (fun w hv hw => net_Strings I hI (wr.heap.size + 1) 0 2 2 [x.k, x.v] rfl (by simp) (by unfold maxLen; omega) w hv (by rw [hns]; simp; omega) hw)
      have HS := Lib.hid (show StrsAt ((wr.alloc (.cells #[S x.k, S x.v] 90)).alloc (.cells #[S x.k, S x.v] 9)) (wr.heap.size + 1) 0 [x.k, x.v] by
        have := strsAt_new (wr.alloc (.cells #[S x.k, S x.v] 90)) [x.k, x.v] 9
        rwa [show (wr.alloc (.cells #[S x.k, S x.v] 90)).heap.size = wr.heap.size + 1 by simp] at this)
      rw [hns] at Hs
      clear hlx hns
      generalize netP x.k = p at Hst hk1 Hs
      generalize netP x.v = q at Hst hk2 Hs
      generalize attK l k = u at Hst hal Hbd
      go_wp2_with fail
      refine (Hs.out _ HS.out ((hwr.alloc _).alloc _)).mono ?_
      rintro e w1 ⟨rfl, hb1⟩
      have hbA : Below wr.heap.size wr w1 := (((Below.refl _ _).alloc (Nat.le_refl _) _).alloc (by simp) _).trans (hb1.mono (by simp; omega))
      have hbd1 := builder_below Hbd.out hbA
      have hsz1 := hbA.size
      have hb1' := hb.trans (hbA.mono hb.size)
      clear hb1 hbA Hbd c0 c1 HS Hs
      go_wp2_with fail
      refine (Tryz.Builder_WriteString w.heap.size w.heap.size _ _ _ hbd1 (by rw [ByteArray.size_mk', List.size_toArray]; simp [Lib.byteCells]; omega) (by omega)).mono ?_
      rintro e w2 ⟨rfl, hbd2, hb2⟩
      have hsz2 := hbd2.lt
      have Hbd2 := Lib.hid (show Lib.IsBuilder 94 5 w.heap.size w.heap.size (Lib.byteCells (attK l (k + 1))) w2 from .inr (by
        have := hbd2
        rw [Lib.strCells_toArray, Lib.byteCells, Lib.byteCells, ← List.map_append, ← Hst.out] at this
        exact this))
      clear hbd1 hbd2
      go_wp2
      go_roundw
      case rel => exact ⟨k + 1, by omega, by go_num, Hbd2.out, hb1'.trans hb2, by omega⟩
      case measure => simp [intOf]; omega
    · have Hn := Lib.hid (attK_all l (k := k) (by omega))
      rw [Hn.out] at Hbd
      go_wp2_with fail
      refine (Tryz.Builder_String_any w.heap.size w.heap.size _ _ Hbd.out (Nat.le_of_lt hsz)).mono ?_
      rintro e w1 ⟨rfl, hb1⟩
      go_wp2
      go_ret
      exact ⟨rfl, hb.trans hb1⟩
end Go.Proofs.YtcbmdghnlbieeaaGreatDoor
namespace Go.Proofs.YtcbmdghnlbieeaaGreatDoor
open Go.RowKit

def kindE1 : MapEntry := { key := .int .i64 1, val := S [102, 105, 108, 101], born := 0 }
def kindE2 : MapEntry := { key := .int .i64 2, val := S [100, 105, 114], born := 1 }
def kindE3 : MapEntry := { key := .int .i64 3, val := S [108, 105, 110, 107], born := 2 }
def kindEs : Array MapEntry := #[kindE1, kindE2, kindE3]

theorem lookup_kinds (w : World) (B c : Nat) (hB : w.heap[B]? = some (.map kindEs c)) (k : Int) (hk : k = 1 ∨ k = 2 ∨ k = 3) :
    (Instr.lookup 70 (.map (some B)) (.int .i64 k) false).run Tryz.prog w = .ok (S (nameP k)) w := by
  have hg := Go.MapKept.run_getObj_map (P := Tryz.prog) hB
  have hc : (Instr.checkKey kindEs.isEmpty 10000 3 (.int .i64 k)).run Tryz.prog w = .ok () w := Go.MapKept.run_checkKey Tryz.underlying3 (show Go.MapKept.IsKey (.int .i64) (.int .i64 k) from rfl) _ _
  unfold Instr.lookup
  simp only [Sem.run_bind, run_underlying Tryz.underlying70, Result.andThen_ok, hg, Sem.run_pure, hc]
  rcases hk with rfl | rfl | rfl
  all_goals simp [Instr.findKey, run_underlying Tryz.underlying3, Instr.findNow, Instr.sameNow, kindEs, kindE1, kindE2, kindE3, nameP]

theorem ins_kind (W : World) (es : Array MapEntry) (c : Nat) (k : Int) (v : Value) (hn : Instr.findNow (.int .i64) (.int .i64 k) es.toList 0 = some none) :
    (Instr.mapUpdate 70 (.map (some W.heap.size)) (.int .i64 k) v).run Tryz.prog (W.alloc (.map es c)) = .ok () (W.alloc (.map (es.push { key := .int .i64 k, val := v, born := c }) (c + 1))) := by
  have hB : (W.alloc (.map es c)).heap[W.heap.size]? = some (.map es c) := by show (W.heap.push _)[W.heap.size]? = _; simp
  have hg := Go.MapKept.run_getObj_map (P := Tryz.prog) hB
  have hc : (Instr.checkKey false 10000 3 (.int .i64 k)).run Tryz.prog (W.alloc (.map es c)) = .ok () (W.alloc (.map es c)) := Go.MapKept.run_checkKey Tryz.underlying3 (show Go.MapKept.IsKey (.int .i64) (.int .i64 k) from rfl) _ _
  have hs := Go.MapKept.run_setObj_map (P := Tryz.prog) (.map (es.push { key := .int .i64 k, val := v, born := c }) (c + 1)) hB
  unfold Instr.mapUpdate
  simp only [Sem.run_bind, run_underlying Tryz.underlying70, Result.andThen_ok, hg, hc, Instr.findKey, run_underlying Tryz.underlying3, hn, Sem.run_pure, hs]
  have hp : ∀ (A : Array Obj) (o o' : Obj), (A.push o).setIfInBounds A.size o' = A.push o' := by
    intro A o o'
    apply Array.ext_getElem?
    intro i
    rw [Array.getElem?_setIfInBounds, Array.getElem?_push, Array.getElem?_push]
    split
    · rename_i h; subst h; simp
    · rename_i h; rw [if_neg (fun e => h e.symm), if_neg (fun e => h e.symm)]
  show Result.ok () { W with heap := (W.heap.push _).setIfInBounds W.heap.size _ } = Result.ok () { W with heap := W.heap.push _ }
  rw [hp]

set_option maxRecDepth 100000 in
theorem dt_kinds (w : World) : Calls Tryz.prog 56 #[] w fun e w' => e = .returned (.map (some w.heap.size)) ∧ w' = w.alloc (.map kindEs 3) := by
  have h1 := ins_kind w #[] 0 1 (S [102, 105, 108, 101]) rfl
  have h2 := ins_kind w #[kindE1] 1 2 (S [100, 105, 114]) rfl
  have h3 := ins_kind w #[kindE1, kindE2] 2 3 (S [108, 105, 110, 107]) rfl
  have e1 : (#[] : Array MapEntry).push { key := .int .i64 1, val := S [102, 105, 108, 101], born := 0 } = #[kindE1] := rfl
  have e2 : (#[kindE1] : Array MapEntry).push { key := .int .i64 2, val := S [100, 105, 114], born := 1 } = #[kindE1, kindE2] := rfl
  have e3 : (#[kindE1, kindE2] : Array MapEntry).push { key := .int .i64 3, val := S [108, 105, 110, 107], born := 2 } = kindEs := rfl
  rw [e1] at h1
  rw [e2] at h2
  rw [e3] at h3
  clear e1 e2 e3
  have hm := fun w => run_makeMap (P := Tryz.prog) 70 w
  go_enter Tryz.func56, Tryz.ntmps56
  go_wp2
  go_ret
  exact ⟨rfl, rfl⟩
end Go.Proofs.YtcbmdghnlbieeaaGreatDoor
namespace Go.Proofs.YtcbmdghnlbieeaaGreatDoor
open Go.RowKit

/-- What the digests of a tree ask of it. -/
structure DgT (t : List Ent) : Prop where
  sml : SmlT t
  len : t.length ≤ 100000
  ok : ∀ y ∈ t, DgOk y
  dir : ∀ y ∈ t, y.kind = 2 → dirErr t y.path = 0
theorem dgT_of {t : List Ent} (h : OkT t) (hl : t.length ≤ 100000) : DgT t := by
  have hok : ∀ y ∈ t, DgOk y := fun y hy => dgOk_of (h.ent y hy) (h.kind y hy)
  refine ⟨fun y hy => ?_, hl, hok, fun y hy hk => ?_⟩
  · have h1 := (hok y hy).path
    have h2 := (hok y hy).target
    exact ⟨by omega, by omega⟩
  · unfold dirErr
    rw [getT_mem h.srt hy]
    split
    · rfl
    · show (if y.kind ≠ 2 then (10 : Int) else 0) = 0
      rw [if_neg (by omega)]
theorem sumP_len (s : Bytes) : (sumP s).length ≤ 32 := by
  unfold sumP
  rw [List.length_map]
  exact outTo_length _ 8
theorem ref02_NumberI (n : Int) (h0 : 0 ≤ n) (h1 : n ≤ 140737488355200) (w : World) :
    Calls Tryz.prog 100 #[.int .i64 n] w fun e w' => e = .returned (S (numP n)) ∧ Below w.heap.size w w' := by
  obtain ⟨m, rfl⟩ := Int.eq_ofNat_of_zero_le h0
  exact ref02_Number m (by omega) w
theorem net_NumberI (I : IH) (hI : Glob I) (n : Int) (h0 : 0 ≤ n) (h1 : n ≤ 140737488355200) (w : World) (hw : Ok I w) :
    Calls Tryz.prog 61 #[.int .i64 n] w fun e w' => e = .returned (S (numP n)) ∧ Below w.heap.size w w' := by
  obtain ⟨m, rfl⟩ := Int.eq_ofNat_of_zero_le h0
  exact net_Number I hI m (by omega) w hw
theorem numP_lenI {n : Int} (h0 : 0 ≤ n) (h1 : n ≤ 140737488355200) : (numP n).length ≤ 17 := by
  obtain ⟨m, rfl⟩ := Int.eq_ofNat_of_zero_le h0
  exact numP_len m (by omega)
theorem ref36_NameB (k : Int) (w : World) : Calls Tryz.prog 83 #[.int .i64 k] w fun e w' => e = .returned (S (nameP k)) ∧ Below w.heap.size w w' :=
  (ref36_Name k w).mono fun _ _ h => ⟨h.1, by rw [h.2]; exact Below.refl _ _⟩
/-- The text of a directory's digest, as it grows. -/
structure DirD (n : Nat) (t : List Ent) (x : Ent) (L : List Ent) (D : List Ent → Bytes) : Prop where
  zero : D [] = frontN x ++ numP L.length
  snoc : ∀ l y, D (l ++ [y]) = D l ++ (netP (lastP y.path) ++ netP (merkP sumP n t y))
  fin : merkP sumP (n + 1) t x = sumP (D L)
  len : ∀ l, (∀ y ∈ l, y ∈ t) → (D l).length ≤ 2400 + 300 * l.length
theorem dirD_of {n : Nat} {t : List Ent} {x : Ent} (hT : DgT t) (hx : DgOk x) (hk : x.kind = 2) : ∃ D, DirD n t x (listT t x.path) D :=
  ⟨dirText sumP n t x, by simp [dirText], dirText_snoc sumP n t x, merk_dir sumP n t hk, fun l hl => dirText_len sumP sumP_len hx hT.len (fun y hy => (hT.ok y hy).path) l hl⟩
theorem listE_ok {t : List Ent} {p : Bytes} (h : dirErr t p = 0) : listE t p = (listT t p, 0) := by rw [listE, if_pos h]
theorem els_pos {p : Bytes} (h : p ≠ []) : 0 < (els p).length := by
  unfold els
  rw [if_neg h]
  exact List.length_pos_iff.2 (elsGo_ne _ _)
theorem els_last {p : Bytes} (_h : p ≠ []) (hl : (els p).length - 1 < (els p).length) : (els p)[(els p).length - 1] = lastP p := by
  unfold lastP
  rw [List.getLastD_eq_getLast?, List.getLast?_eq_getElem?, List.getElem?_eq_getElem hl]
  rfl
theorem listT_sub {t : List Ent} {p : Bytes} {y : Ent} (h : y ∈ listT t p) : y ∈ t ∧ y.path ≠ [] := ⟨(listT_mem.1 h).1, (listT_mem.1 h).2.2.1⟩

set_option maxRecDepth 100000 in
set_option maxHeartbeats 4000000 in
theorem ref37_merkle (t : List Ent) (hT : DgT t) : ∀ (n : Nat) (I : IH) (_hI : Glob I) (v : Value) (_hv : RdS tEnt I v t) (x : Ent) (va vx : Value) (_hva : RdS tAt I va x.attrs) (_hvx : RdS tXt I vx x.exts) (_hx : DgOk x) (_hd : Deep n x) (_hdr : x.kind = 2 → dirErr t x.path = 0) (w : World) (_hw : Ok I w),
    Calls Tryz.prog 64 #[v, entV x va vx] w fun e w' => e = .returned (S (merkP sumP n t x)) ∧ Below w.heap.size w w' := by
  intro n
  induction n with
  | zero =>
    intro I hI v hv x va vx hva hvx hx hd
    have := hx.deep
    unfold Deep at hd
    omega
  | succ n ih =>
    intro I hI v hv x va vx hva hvx hx hd hdr w hw
    have Hih := Lib.hid ih
    clear ih
    obtain ⟨ao, cap, rfl, hcap, hcm, _⟩ := id hv
    obtain ⟨xa, xc, rfl, _, _, _⟩ := id hva
    obtain ⟨xx, xd, rfl, _, _, _⟩ := id hvx
    have Hv := Lib.hid hv
    have Hx := Lib.hid hx
    have Hd := Lib.hid hd
    have Hdr := Lib.hid hdr
    have HI := Lib.hid hI
    have HT := Lib.hid hT
    have hk0 := nameP_len x.kind
    have hk1 := netP_len (nameP x.kind) (by omega)
    have hk2 := attP_len hx.natt hx.att
    have Hn := Lib.hid (fun w => ref36_NameB x.kind w)
    have Hs := Lib.hid (fun w => ref02_String (nameP x.kind) (by omega) w)
    have Ha := Lib.hid (fun w hw => ref37_attrs I _ x.attrs hva hx.natt hx.att w hw)
    have HF := Lib.hid (frontN_eq x)
    have hF := frontN_len hx
    have HB0 := Lib.hid (entB (n := w.heap.size) (e := x) (va := .slice xa x.attrs.length xc) (vx := .slice xx x.exts.length xd) (t := 26) rfl (Below.refl _ _))
    have hokB := hw.alloc (.cells #[.int .i64 x.kind, S x.path, .slice xa x.attrs.length xc, S x.target, .int .i64 x.size, S x.digest, .slice xx x.exts.length xd] 26)
    have hbB := (Below.refl w.heap.size w).alloc (Nat.le_refl _) (.cells #[.int .i64 x.kind, S x.path, .slice xa x.attrs.length xc, S x.target, .int .i64 x.size, S x.digest, .slice xx x.exts.length xd] 26)
    clear hv hva hvx hx hd hdr hI hT
    obtain ⟨c0, c1, c2, c3, c4, c5, c6⟩ := HB0.out
    have e0 := cell_regrown c0
    have e2 := cell_regrown c2
    generalize nameP x.kind = m at Hn Hs hk0 hk1 HF
    generalize netP m = p at Hs hk1 HF
    generalize attP x.attrs = q at Ha hk2 HF
    go_enter Tryz.func64, Tryz.ntmps64
    go_wp2_with fail
    refine wp_region_quiet_below (by kernel_rfl) (by kernel_rfl) ?_
    repeat (go_big_quiet_step ((with_reducible first | exact Calls.regrown_of (Hn.out _) | exact Calls.regrown_of (Hs.out _) | exact Calls.regrown_of (Ha.out _ (hokB.below (Nat.le_refl _) (below_regrown _ _ _))))))
    refine wpQuiet_nil ?_
    intro w1 hwq
    have hb1 : Below ((w.alloc (.cells #[.int .i64 x.kind, S x.path, .slice xa x.attrs.length xc, S x.target, .int .i64 x.size, S x.digest, .slice xx x.exts.length xd] 26))).heap.size ((w.alloc (.cells #[.int .i64 x.kind, S x.path, .slice xa x.attrs.length xc, S x.target, .int .i64 x.size, S x.digest, .slice xx x.exts.length xd] 26))) w1 := by
      obtain ⟨pq, rfl⟩ := hwq
      exact below_regrown _ _ _
    clear hwq
    rw [show p ++ q = frontN x from HF.out.symm]
    have hok1 : Ok I w1 := hokB.below (Nat.le_refl _) hb1
    have HB1 := Lib.hid (HB0.out.thru hb1)
    have hb1' := hbB.trans (hb1.mono (by simp))
    clear hb1 hbB hokB HB0 c0 c1 c2 c3 c4 c5 c6 e0 e2 HF Hn Hs Ha hk0 hk1 hk2
    obtain ⟨F, hFe⟩ : ∃ F, frontN x = F := ⟨_, rfl⟩
    have HFe := Lib.hid hFe
    rw [hFe] at hF ⊢
    clear hFe
    obtain ⟨c0, c1, c2, c3, c4, c5, c6⟩ := HB1.out
    by_cases hk : x.kind = 2
    case neg =>
      have k1 : ((x.kind : Int) != 2) = true := by simpa using hk
      have Hm := Lib.hid (merk_leaf sumP n t hk)
      rw [HFe.out] at Hm
      have ht := netP_len x.target (by have := Hx.out.target; omega)
      have hdg := netP_len x.digest (by have := Hx.out.digest; omega)
      have ht' := Hx.out.target
      have hdg' := Hx.out.digest
      have hz := numP_lenI Hx.out.s0 (by have := Hx.out.s1; omega)
      have H1 := Lib.hid (fun w => ref02_String x.target (by omega) w)
      have H2 := Lib.hid (fun w => ref02_NumberI x.size Hx.out.s0 (by have := Hx.out.s1; omega) w)
      have H3 := Lib.hid (fun w => ref02_String x.digest (by omega) w)
      have e3 := cell_regrown c3
      have e4 := cell_regrown c4
      have e5 := cell_regrown c5
      generalize netP x.target = p at Hm ht H1
      generalize numP x.size = q at Hm hz H2
      generalize netP x.digest = r at Hm hdg H3
      clear hk
      go_wp2_with fail
      refine wp_region_below_tail 13 (by kernel_rfl) (by kernel_rfl) ?_
      simp only [List.take_succ_cons, List.take_zero, List.drop_succ_cons, List.drop_zero]
      repeat (go_big_quiet_step ((with_reducible first | exact Calls.regrown_of (H1.out _) | exact Calls.regrown_of (H2.out _) | exact Calls.regrown_of (H3.out _))))
      refine wpQuiet_nil ?_
      intro w2 hwq
      have hb2 : Below (w1).heap.size (w1) w2 := by
        obtain ⟨pq, rfl⟩ := hwq
        exact below_regrown _ _ _
      clear hwq
      have hb2' := hb1'.trans (hb2.mono hb1'.size)
      clear e3 e4 e5 hb2 c0 c1 c2 c3 c4 c5 c6
      go_wp2_with fail
      refine (ref04_Sum1 _ _ _ (F ++ p ++ q ++ r) (by simp; omega) _ (by simp)).mono ?_
      rintro e w3 ⟨rfl, hb3⟩
      go_wp2
      go_ret
      exact ⟨ret_s (by rw [Hm.out]; simp), (hb2'.alloc hb2'.size _).trans (hb3.mono (by have := hb2'.size; simp; omega))⟩
    have k1 : ((x.kind : Int) != 2) = false := by simpa using hk
    obtain ⟨D, hD⟩ := dirD_of (n := n) HT.out Hx.out hk
    have HD := Lib.hid hD
    have hD0 := hD.zero
    rw [HFe.out] at hD0
    have HD0 := Lib.hid hD0
    have Hli := Lib.hid (fun w hw => ref37_List I HI.out _ t Hv.out HT.out.sml HT.out.len x.path w hw)
    rw [listE_ok (Hdr.out hk)] at Hli
    have Hsub := Lib.hid (fun y (hy : y ∈ listT t x.path) => And.intro (listT_sub hy) (list_deep Hd.out hy))
    have hLl : (listT t x.path).length ≤ 100000 := Nat.le_trans (List.length_filter_le _ _) HT.out.len
    generalize listT t x.path = L at Hli HD HD0 Hsub hLl
    clear hk hD hD0
    go_wp2_with fail
    refine (Hli.out _ hok1).mono ?_
    rintro e2 w2 ⟨v2, I2, rfl, hb2, hx2, hok2, hr2⟩
    obtain ⟨ao2, cap2, rfl, hcap2, hcm2, _⟩ := id hr2
    have Hr2 := Lib.hid hr2
    have HK2 := Lib.hid (hx2.keep hok1 (Nat.le_refl _))
    have hb2' := hb1'.trans (hb2.mono hb1'.size)
    have hs2 := hb2'.size
    have Hnu := Lib.hid (fun w => ref02_Number L.length (by omega) w)
    have hnl := numP_len L.length (by omega)
    clear hb2 hb1' hr2 hx2 c0 c1 c2 c3 c4 c5 c6 Hli
    go_wp2_with fail
    refine (Hnu.out _).mono ?_
    rintro e3 w3 ⟨rfl, hb3⟩
    have Hb3 := Lib.hid hb3
    have HZ := Lib.hid (show F ++ numP L.length = D [] by rw [← HD0.out])
    generalize numP L.length = q at hnl HZ ⊢
    clear hb3
    go_wp2_with fail
    rw [HZ.out]
    go_loopw [5, 51] (fun s5 s51 wr => ∃ k : Nat, k ≤ L.length ∧ s51 = .int .i64 k ∧ s5 = S (D (L.take k)) ∧ Below w2.heap.size w2 wr) (fun _ i _ => L.length - (intOf i).toNat)
    case atStart => exact ⟨0, Nat.zero_le _, rfl, rfl, Hb3.out⟩
    case round =>
      clear Hb3 HZ
      obtain ⟨k, hk, rfl, rfl, hb⟩ := hrel
      have hwr : Ok I2 wr := hok2.below (Nat.le_refl _) hb
      have hDl := HD.out.len (L.take k) fun y hy => (Hsub.out y (List.mem_of_mem_take hy)).1.1
      have hDl' : (L.take k).length ≤ L.length := by simp; omega
      by_cases hlt : k < L.length
      · obtain ⟨y, va, vx, bb, off, cap', hly, hvv, ⟨d0, d1, d2, d3, d4, d5, d6⟩, h1, h2⟩ := entAt Hr2.out hwr k hlt
        cases hvv
        have hym := Hsub.out y (by rw [← hly]; exact List.getElem_mem hlt)
        have Hym := Lib.hid hym
        have Hst := Lib.hid (show D (L.take (k + 1)) = D (L.take k) ++ (netP (lastP y.path) ++ netP (merkP sumP n t y)) by rw [List.take_succ_eq_append_getElem hlt, hly]; exact HD.out.snoc _ _)
        have hyo := HT.out.ok y hym.1.1
        have hyp := hyo.path
        obtain ⟨ya, yc, rfl, _, _, _⟩ := id h1
        obtain ⟨yx, yd, rfl, _, _, _⟩ := id h2
        have Hel := Lib.hid (fun w hw => ref31_Elements I2 y.path (by omega) w hw)
        have Hyo := Lib.hid hyo
        have Hy1 := Lib.hid h1
        have Hy2 := Lib.hid h2
        have Hpos := Lib.hid (els_pos hym.1.2)
        have Hlast := Lib.hid (els_last hym.1.2)
        have hll := lastP_len y.path
        have hkl := netP_len (lastP y.path) (by omega)
        have hkm := merkP_len sumP sumP_len n t y
        have hkn := netP_len (merkP sumP n t y) (by omega)
        clear hly h1 h2 hym hyo
        generalize els y.path = E at Hel Hpos Hlast
        go_wp2_with fail
        refine (Hel.out _ (hwr.alloc _)).mono ?_
        rintro e4 w4 ⟨v4, I4, rfl, hb4, hx4, hok4, hr4⟩
        obtain ⟨ao4, cap4, rfl, hcap4, hcm4, _⟩ := id hr4
        have hpos := Hpos.out
        have hEl := hr4.len_le
        obtain ⟨s4, b4, off4, cap4', hls4, hvv, g4⟩ := strAt hr4 hok4 (E.length - 1) (by omega)
        cases hvv
        have hs4 : s4 = lastP y.path := by rw [← hls4]; exact Hlast.out (by omega)
        subst hs4
        have HK4 := Lib.hid (hx4.keep (hwr.alloc _) (Nat.le_refl _))
        obtain ⟨y0, y1, y2, y3, y4, y5, y6⟩ := entB (e := y) rfl hb4
        have hb4' := (hb.alloc hb.size (.cells #[.int .i64 y.kind, S y.path, .slice ya y.attrs.length yc, S y.target, .int .i64 y.size, S y.digest, .slice yx y.exts.length yd] 26)).trans (hb4.mono (by have := hb.size; simp; omega))
        have Hme := Lib.hid (fun w hw => Hih.out I4 ((HI.out.mono HK2.out).mono HK4.out) _ ((Hv.out.mono HK2.out).mono HK4.out) y _ _ (Hy1.out.mono HK4.out) (Hy2.out.mono HK4.out) Hyo.out Hym.out.2 (HT.out.dir y Hym.out.1.1) w hw)
        have Hs1 := Lib.hid (fun w => ref02_String (lastP y.path) (by omega) w)
        have Hs2 := Lib.hid (fun w => ref02_String (merkP sumP n t y) (by omega) w)
        have hi : IntKind.i64.wrap ((E.length : Int) - 1) = (E.length : Int) - 1 := IntWalk.i64_in _ (by omega)
        have hj : 0 ≤ (E.length : Int) - 1 := by omega
        have hm : ((E.length : Int) - 1).toNat = E.length - 1 := by omega
        have hji : (E.length : Int) - 1 < E.length := by omega
        clear hb4 hx4 hr4 hls4 d0 d1 d2 d3 d4 d5 d6 Hel Hlast
        have g4' := cell_regrown g4
        have x0 := cell_regrown y0
        have x1 := cell_regrown y1
        have x2 := cell_regrown y2
        have x3 := cell_regrown y3
        have x4 := cell_regrown y4
        have x5 := cell_regrown y5
        have x6 := cell_regrown y6
        generalize lastP y.path = lp at Hst hll hkl Hs1 g4 g4'
        generalize merkP sumP n t y = mk at Hst hkm hkn Hme Hs2
        generalize netP lp = p at Hst hkl Hs1
        generalize netP mk = q at Hst hkn Hs2
        generalize D (L.take k) = u at Hst hDl ⊢
        clear g4 y0 y1 y2 y3 y4 y5 y6
        go_wp2_with fail
        refine wp_region_quiet_below (by kernel_rfl) (by kernel_rfl) ?_
        repeat (go_big_quiet_step ((with_reducible first | exact Calls.regrown_of (Hs1.out _) | exact Calls.regrown_of (Hs2.out _) | exact Calls.regrown_of (Hme.out _ (hok4.below (Nat.le_refl _) (below_regrown _ _ _))))))
        refine wpQuiet_nil ?_
        intro w5 hwq
        have hb5 : Below (w4).heap.size (w4) w5 := by
          obtain ⟨pq, rfl⟩ := hwq
          exact below_regrown _ _ _
        clear hwq
        go_wp2
        go_roundw
        case rel => exact ⟨k + 1, by omega, by go_num, (by rw [Hst.out]), hb4'.trans (hb5.mono hb4'.size)⟩
        case measure => simp [intOf]; omega
      · have hall : L.take k = L := List.take_of_length_le (by omega)
        rw [hall] at hDl ⊢
        have Hm := Lib.hid HD.out.fin
        generalize D L = T at hDl Hm ⊢
        clear hall
        go_wp2_with fail
        refine (ref04_Sum1 _ _ _ T (by omega) _ (by simp)).mono ?_
        rintro e5 w5 ⟨rfl, hb5⟩
        go_wp2
        go_ret
        have hbz := (hb.alloc hb.size (.cells #[S T] 9)).trans (hb5.mono (by have := hb.size; simp; omega))
        exact ⟨ret_s Hm.out.symm, hb2'.trans (hbz.mono hs2)⟩
end Go.Proofs.YtcbmdghnlbieeaaGreatDoor
namespace Go.Proofs.YtcbmdghnlbieeaaGreatDoor
open Go.RowKit

theorem OwnS.castD {α : Type} {T : Ty α} {E : TypeId} {I : IH} {w : World} {B : Nat} {v : Value} {l l' : List α} (h : OwnS T E I w B v l) (e : l = l') : OwnS T E I w B v l' := e ▸ h
theorem blk_SumN (b off cap n : Nat) (l : List Bytes) (hn : l.length = n) (s : Bytes) (hl : l.flatten = s) (hs : s.length ≤ 140737488355328) (w : World) (hc : StrsAt w b off l) (hcap : n ≤ cap) (hbl : b < w.heap.size) (hn' : n ≤ 1000000) :
    Calls Tryz.prog 60 #[.slice (some ⟨b, off, none⟩) n cap] w fun e w' => e = .returned (S (sumP s)) ∧ Below w.heap.size w w' := by
  subst hn
  exact blk_SumL b off cap l s hl hs w hc hcap hbl hn'
theorem liesS_cells {I : IH} {xs : List Value} {l : List Bytes} (h : LiesL tStr I xs l) (j : Nat) (x : Bytes) (hx : l[j]? = some x) : xs[j]? = some (S x) := by
  obtain ⟨hj, rfl⟩ := List.getElem?_eq_some_iff.1 hx
  obtain ⟨cs, k1, k2⟩ := h.2 j hj
  have k1 : cs = [S l[j]] := k1
  subst k1
  have k := k2 0 (S l[j]) rfl
  have e : j * tStr.size + 0 = j := Nat.mul_one j
  rwa [e] at k
theorem own_strsAt {I : IH} {E : TypeId} {w : World} {B : Nat} {v : Value} {l : List Bytes} (h : OwnS tStr E I w B v l) (hl : l ≠ []) : ∃ g cap, v = .slice (some ⟨g, 0, none⟩) l.length cap ∧ l.length ≤ cap ∧ g < w.heap.size ∧ StrsAt w g 0 l := by
  obtain ⟨xs, ⟨h1, h2⟩, h3⟩ := h
  rcases h2 with ⟨rfl, h0⟩ | ⟨g, cap, cur, rfl, hB, hg, hc, hm, hs, ht⟩
  · exact absurd (List.eq_nil_of_length_eq_zero h0) hl
  · refine ⟨g, cap, rfl, hc, (Array.getElem?_eq_some_iff.1 hg).1, fun j x hx => ?_⟩
    have hk := liesS_cells h3 j x hx
    rw [cell_of_row w g _ _ _ _ hg, Nat.zero_add]
    rw [← ht] at hk
    obtain ⟨hj, he⟩ := List.getElem?_eq_some_iff.1 hk
    rw [← Array.getElem?_toList, ← hk]
    rw [List.getElem?_take_of_lt (by rw [List.length_take] at hj; omega)]
theorem own_two {I : IH} (W : World) (a b : Bytes) (n : Nat) (hn : n = W.heap.size) : OwnS tStr 9 I (W.alloc (.cells #[S a, S b] 9)) n (.slice (some ⟨n, 0, none⟩) 2 2) [a, b] := by
  subst hn
  refine ⟨[S a, S b], ⟨rfl, .inr ⟨W.heap.size, 2, #[S a, S b], rfl, Nat.le_refl _, heap_alloc_new W _, Nat.le_refl _, by unfold maxLen; omega, rfl, rfl⟩⟩, rfl, fun i hi => ?_⟩
  match i, hi with
  | 0, _ => exact ⟨[S a], rfl, fun j u hj => by
      have hj0 : j = 0 := by have := (List.getElem?_eq_some_iff.1 hj).1; simp at this; omega
      subst hj0
      exact hj⟩
  | 1, _ => exact ⟨[S b], rfl, fun j u hj => by
      have hj0 : j = 0 := by have := (List.getElem?_eq_some_iff.1 hj).1; simp at this; omega
      subst hj0
      exact hj⟩

/-- What the closure has captured. -/
structure CapD (w : World) (bn bt bd B : Nat) (v : Value) : Prop where
  names : w.cell? ⟨bn, 0, none⟩ = some (.map (some B))
  es : w.heap[B]? = some (.map kindEs 3)
  tree : w.cell? ⟨bt, 0, none⟩ = some v
  self : w.cell? ⟨bd, 0, none⟩ = some (.func (.func 57) #[] #[.pointer (some ⟨bn, 0, none⟩), .pointer (some ⟨bt, 0, none⟩), .pointer (some ⟨bd, 0, none⟩)])
theorem CapD.thru {w w' : World} {bn bt bd B : Nat} {v : Value} (h : CapD w bn bt bd B v) (hb : Below w.heap.size w w') : CapD w' bn bt bd B v :=
  ⟨cell_thru hb h.names, (hb.block _ (Array.getElem?_eq_some_iff.1 h.es).1).trans h.es, cell_thru hb h.tree, cell_thru hb h.self⟩
theorem CapD.past {w : World} {bn bt bd B : Nat} {v : Value} (h : CapD w bn bt bd B v) (o : Obj) : CapD (w.alloc o) bn bt bd B v := h.thru ((Below.refl _ _).alloc (Nat.le_refl _) o)
theorem CapD.own {w w' : World} {bn bt bd B : Nat} {v : Value} {row : Option Nat} (h : CapD w bn bt bd B v) (hg : w.grownBy w' row) (h1 : row ≠ some bn) (h2 : row ≠ some B) (h3 : row ≠ some bt) (h4 : row ≠ some bd) : CapD w' bn bt bd B v :=
  ⟨cell_own hg h1 h.names, (hg.block _ (Array.getElem?_eq_some_iff.1 h.es).1 (fun e => h2 e.symm)).trans h.es, cell_own hg h3 h.tree, cell_own hg h4 h.self⟩
theorem CapD.lts {w : World} {bn bt bd B : Nat} {v : Value} (h : CapD w bn bt bd B v) : bn < w.heap.size ∧ B < w.heap.size ∧ bt < w.heap.size ∧ bd < w.heap.size :=
  ⟨block_lt_of_cell h.names, (Array.getElem?_eq_some_iff.1 h.es).1, block_lt_of_cell h.tree, block_lt_of_cell h.self⟩
theorem CapD.look {w : World} {bn bt bd B : Nat} {v : Value} (h : CapD w bn bt bd B v) {k : Int} (hk : k = 1 ∨ k = 2 ∨ k = 3) (d : Nat) (os : Array Obj) :
    (Instr.lookup 70 (.map (some B)) (.int .i64 k) false).run Tryz.prog (Go.Sort.grow (redrawn w d) os) = .ok (S (nameP k)) (Go.Sort.grow (redrawn w d) os) :=
  lookup_kinds _ B 3 (((below_regrown w d os).block B h.lts.2.1).trans h.es) k hk

/-- The parts of a directory's digest, as they grow. -/
structure DirP (n : Nat) (t : List Ent) (x : Ent) (L : List Ent) (P : List Ent → List Bytes) : Prop where
  zero : P [] = [frontN x, numP L.length]
  snoc : ∀ l y, P (l ++ [y]) = P l ++ [netP (lastP y.path) ++ netP (merkP sumP n t y)]
  fin : merkP sumP (n + 1) t x = sumP (P L).flatten
  len : ∀ l, (∀ y ∈ l, y ∈ t) → (P l).flatten.length ≤ 2400 + 300 * l.length
  num : ∀ l, (P l).length = l.length + 2
theorem dirP_of {n : Nat} {t : List Ent} {x : Ent} (hT : DgT t) (hx : DgOk x) (hk : x.kind = 2) : ∃ P, DirP n t x (listT t x.path) P := by
  have hfl : ∀ l : List Ent, (frontN x :: numP (listT t x.path).length :: l.map fun y => netP (lastP y.path) ++ netP (merkP sumP n t y)).flatten = dirText sumP n t x l := fun l => by
    simp [dirText, List.flatMap_def]
  refine ⟨fun l => frontN x :: numP (listT t x.path).length :: l.map fun y => netP (lastP y.path) ++ netP (merkP sumP n t y), rfl, fun l y => by simp, ?_, fun l hl => ?_, fun l => by simp⟩
  · rw [hfl]; exact merk_dir sumP n t hk
  · rw [hfl]; exact dirText_len sumP sumP_len hx hT.len (fun y hy => (hT.ok y hy).path) l hl
/-- The name behind the last slash, in the walk's own terms. -/
theorem slash_nat (s : Bytes) : ∃ (j : Int) (m : Nat), slashAt s = j ∧ j + 1 = (m : Int) ∧ m ≤ s.length ∧ s.drop m = lastP s := by
  obtain ⟨h1, h2, h3⟩ := slashAt_name s
  exact ⟨slashAt s, (slashAt s + 1).toNat, rfl, by omega, by omega, h3⟩

set_option maxRecDepth 100000 in
set_option maxHeartbeats 4000000 in
theorem dt_digest (t : List Ent) (hT : DgT t) : ∀ (n : Nat) (I : IH) (_hI : Glob I) (v : Value) (_hv : RdS tEnt I v t) (x : Ent) (va vx : Value) (_hva : RdS tAt I va x.attrs) (_hvx : RdS tXt I vx x.exts) (_hx : DgOk x) (_hd : Deep n x) (_hdr : x.kind = 2 → dirErr t x.path = 0) (w : World) (_hw : Ok I w) (bn bt bd B : Nat) (_hc : CapD w bn bt bd B v),
    Calls Tryz.prog 57 #[entV x va vx, .pointer (some ⟨bn, 0, none⟩), .pointer (some ⟨bt, 0, none⟩), .pointer (some ⟨bd, 0, none⟩)] w fun e w' => e = .returned (S (merkP sumP n t x)) ∧ Below w.heap.size w w' := by
  intro n
  induction n with
  | zero =>
    intro I hI v hv x va vx hva hvx hx hd
    have := hx.deep
    unfold Deep at hd
    omega
  | succ n ih =>
    intro I hI v hv x va vx hva hvx hx hd hdr w hw bn bt bd B hc
    have Hih := Lib.hid ih
    clear ih
    obtain ⟨ao, cap, rfl, hcap, hcm, _⟩ := id hv
    obtain ⟨xa, xc, rfl, _, _, _⟩ := id hva
    obtain ⟨xx, xd, rfl, _, _, _⟩ := id hvx
    have Hv := Lib.hid hv
    have Hx := Lib.hid hx
    have Hd := Lib.hid hd
    have Hdr := Lib.hid hdr
    have HI := Lib.hid hI
    have HT := Lib.hid hT
    have Hc := Lib.hid hc
    have hk0 := nameP_len x.kind
    have hk1 := netP_len (nameP x.kind) (by omega)
    have hk2 := attP_len hx.natt hx.att
    have Hs := Lib.hid (fun w hw => net_String I hI (nameP x.kind) (by omega) w hw)
    have Ha := Lib.hid (fun w hw => dt_attributes I hI _ x.attrs hva hx.natt hx.att w hw)
    have HF := Lib.hid (frontN_eq x)
    have hF := frontN_len hx
    have hcB := hc.past (.cells #[.int .i64 x.kind, S x.path, .slice xa x.attrs.length xc, S x.target, .int .i64 x.size, S x.digest, .slice xx x.exts.length xd] 26)
    have HcB := Lib.hid hcB
    have hlk := hcB.look hx.kind
    have HB0 := Lib.hid (entB (n := w.heap.size) (e := x) (va := .slice xa x.attrs.length xc) (vx := .slice xx x.exts.length xd) (t := 26) rfl (Below.refl _ _))
    have hokB := hw.alloc (.cells #[.int .i64 x.kind, S x.path, .slice xa x.attrs.length xc, S x.target, .int .i64 x.size, S x.digest, .slice xx x.exts.length xd] 26)
    have hbB := (Below.refl w.heap.size w).alloc (Nat.le_refl _) (.cells #[.int .i64 x.kind, S x.path, .slice xa x.attrs.length xc, S x.target, .int .i64 x.size, S x.digest, .slice xx x.exts.length xd] 26)
    have g1 := cell_regrown hcB.names
    clear hv hva hvx hx hd hdr hI hT hc hcB
    obtain ⟨c0, c1, c2, c3, c4, c5, c6⟩ := HB0.out
    have e0 := cell_regrown c0
    have e2 := cell_regrown c2
    generalize nameP x.kind = m at hlk Hs hk0 hk1 HF
    generalize netP m = p at Hs hk1 HF
    generalize attP x.attrs = q at Ha hk2 HF
    go_enter Tryz.func57, Tryz.ntmps57
    go_wp2_with fail
    refine wp_region_quiet_below (by kernel_rfl) (by kernel_rfl) ?_
    repeat (go_big_quiet_step ((with_reducible first | exact Calls.regrown_of (Hs.out _ (hokB.below (Nat.le_refl _) (below_regrown _ _ _))) | exact Calls.regrown_of (Ha.out _ (hokB.below (Nat.le_refl _) (below_regrown _ _ _))))))
    refine wpQuiet_nil ?_
    intro w1 hwq
    have hb1 : Below ((w.alloc (.cells #[.int .i64 x.kind, S x.path, .slice xa x.attrs.length xc, S x.target, .int .i64 x.size, S x.digest, .slice xx x.exts.length xd] 26))).heap.size ((w.alloc (.cells #[.int .i64 x.kind, S x.path, .slice xa x.attrs.length xc, S x.target, .int .i64 x.size, S x.digest, .slice xx x.exts.length xd] 26))) w1 := by
      obtain ⟨pq, rfl⟩ := hwq
      exact below_regrown _ _ _
    clear hwq
    rw [show p ++ q = frontN x from HF.out.symm]
    have hok1 : Ok I w1 := hokB.below (Nat.le_refl _) hb1
    have HB1 := Lib.hid (HB0.out.thru hb1)
    have Hc1 := Lib.hid (HcB.out.thru hb1)
    have hb1' := hbB.trans (hb1.mono (by simp))
    clear hb1 hbB hokB HB0 HcB Hc c0 c1 c2 c3 c4 c5 c6 e0 e2 g1 hlk HF Hs Ha hk0 hk1 hk2
    obtain ⟨F, hFe⟩ : ∃ F, frontN x = F := ⟨_, rfl⟩
    have HFe := Lib.hid hFe
    rw [hFe] at hF ⊢
    clear hFe
    obtain ⟨c0, c1, c2, c3, c4, c5, c6⟩ := HB1.out
    by_cases hk : x.kind = 2
    case neg =>
      have k1 : ((x.kind : Int) != 2) = true := by simpa using hk
      have Hm := Lib.hid (merk_leaf sumP n t hk)
      rw [HFe.out] at Hm
      have ht := netP_len x.target (by have := Hx.out.target; omega)
      have hdg := netP_len x.digest (by have := Hx.out.digest; omega)
      have ht' := Hx.out.target
      have hdg' := Hx.out.digest
      have hz := numP_lenI Hx.out.s0 (by have := Hx.out.s1; omega)
      have H1 := Lib.hid (fun w hw => net_String I HI.out x.target (by omega) w hw)
      have H2 := Lib.hid (fun w hw => net_NumberI I HI.out x.size Hx.out.s0 (by have := Hx.out.s1; omega) w hw)
      have H3 := Lib.hid (fun w hw => net_String I HI.out x.digest (by omega) w hw)
      have e3 := cell_regrown c3
      have e4 := cell_regrown c4
      have e5 := cell_regrown c5
      generalize netP x.target = p at Hm ht H1
      generalize numP x.size = q at Hm hz H2
      generalize netP x.digest = r at Hm hdg H3
      clear hk
      go_wp2_with fail
      refine wp_region_below_tail 10 (by kernel_rfl) (by kernel_rfl) ?_
      simp only [List.take_succ_cons, List.take_zero, List.drop_succ_cons, List.drop_zero]
      repeat (go_big_quiet_step ((with_reducible first | exact Calls.regrown_of (H1.out _ (hok1.below (Nat.le_refl _) (below_regrown _ _ _))) | exact Calls.regrown_of (H2.out _ (hok1.below (Nat.le_refl _) (below_regrown _ _ _))) | exact Calls.regrown_of (H3.out _ (hok1.below (Nat.le_refl _) (below_regrown _ _ _))))))
      refine wpQuiet_nil ?_
      intro w2 hwq
      have hb2 : Below (w1).heap.size (w1) w2 := by
        obtain ⟨pq, rfl⟩ := hwq
        exact below_regrown _ _ _
      clear hwq
      have hb2' := hb1'.trans (hb2.mono hb1'.size)
      have HS := Lib.hid (strsAt_new w2 [F, p, q, r] 9)
      clear e3 e4 e5 hb2 c0 c1 c2 c3 c4 c5 c6
      go_wp2_with fail
      refine (blk_SumN _ 0 4 4 [F, p, q, r] rfl (F ++ p ++ q ++ r) (by simp) (by simp; omega) _ HS.out (by omega) (by simp) (by omega)).mono ?_
      rintro e w3 ⟨rfl, hb3⟩
      go_wp2
      go_ret
      exact ⟨ret_s (by rw [Hm.out]; simp), (hb2'.alloc hb2'.size _).trans (hb3.mono (by have := hb2'.size; simp; omega))⟩
    have k1 : ((x.kind : Int) != 2) = false := by simpa using hk
    obtain ⟨P, hP⟩ := dirP_of (n := n) HT.out Hx.out hk
    have HP := Lib.hid hP
    have hP0 := hP.zero
    rw [HFe.out] at hP0
    have HP0 := Lib.hid hP0
    have Hli := Lib.hid (fun w hw => dt_List I HI.out _ t Hv.out HT.out.sml HT.out.len x.path w hw)
    rw [listE_ok (Hdr.out hk)] at Hli
    have Hsub := Lib.hid (fun y (hy : y ∈ listT t x.path) => And.intro (listT_sub hy) (list_deep Hd.out hy))
    have hLl : (listT t x.path).length ≤ 100000 := Nat.le_trans (List.length_filter_le _ _) HT.out.len
    generalize listT t x.path = L at Hli HP HP0 Hsub hLl
    have g2 := Hc1.out.tree
    clear hk hP hP0
    go_wp2_with fail
    refine (Hli.out _ hok1).mono ?_
    rintro e2 w2 ⟨v2, I2, rfl, hb2, hx2, hok2, hr2⟩
    obtain ⟨ao2, cap2, rfl, hcap2, hcm2, _⟩ := id hr2
    have Hr2 := Lib.hid hr2
    have HK2 := Lib.hid (hx2.keep hok1 (Nat.le_refl _))
    have hb2' := hb1'.trans (hb2.mono hb1'.size)
    have Hc2 := Lib.hid (Hc1.out.thru hb2)
    have hs2 := hb2'.size
    have Hnu := Lib.hid (fun w hw => net_Number I2 (HI.out.mono HK2.out) L.length (by omega) w hw)
    have hnl := numP_len L.length (by omega)
    have Hfr := Lib.hid (fun b (hb : w2.heap.size ≤ b) => hok2.fresh (b := b) hb)
    clear hb2 hb1' hr2 hx2 c0 c1 c2 c3 c4 c5 c6 g2 Hli
    go_wp2_with fail
    refine (Hnu.out _ hok2).mono ?_
    rintro e3 w3 ⟨rfl, hb3⟩
    have Hst := Lib.hid (((own_two (I := I2) w3 F (numP L.length) _ rfl).lower hb3.size).castD HP0.out.symm)
    have Hb3 := Lib.hid (hb3.alloc hb3.size (.cells #[S F, S (numP L.length)] 9))
    generalize numP L.length = q at hnl Hst Hb3 ⊢
    clear hb3
    go_wp2_with fail
    go_loopw [9, 51] (fun s9 s51 wr => ∃ k : Nat, k ≤ L.length ∧ s51 = .int .i64 k ∧ OwnS tStr 9 I2 wr w2.heap.size s9 (P (L.take k)) ∧ Below w2.heap.size w2 wr) (fun _ i _ => L.length - (intOf i).toNat)
    case atStart => exact ⟨0, Nat.zero_le _, rfl, Hst.out, Hb3.out⟩
    case round =>
      clear Hb3 Hst
      obtain ⟨k, hk, rfl, hown, hb⟩ := hrel
      have Hown := Lib.hid hown
      clear hown
      have hwr : Ok I2 wr := hok2.below (Nat.le_refl _) hb
      have Hcr := Lib.hid (Hc2.out.thru hb)
      have hPl := HP.out.len (L.take k) fun y hy => (Hsub.out y (List.mem_of_mem_take hy)).1.1
      have hPn := HP.out.num (L.take k)
      have hDl' : (L.take k).length ≤ L.length := by simp; omega
      by_cases hlt : k < L.length
      · obtain ⟨y, va, vx, bb, off, cap', hly, hvv, ⟨d0, d1, d2, d3, d4, d5, d6⟩, h1, h2⟩ := entAt Hr2.out hwr k hlt
        cases hvv
        have hym := Hsub.out y (by rw [← hly]; exact List.getElem_mem hlt)
        have Hym := Lib.hid hym
        have Hst := Lib.hid (show P (L.take (k + 1)) = P (L.take k) ++ [netP (lastP y.path) ++ netP (merkP sumP n t y)] by rw [List.take_succ_eq_append_getElem hlt, hly]; exact HP.out.snoc _ _)
        have hyo := HT.out.ok y hym.1.1
        have hyp := hyo.path
        obtain ⟨ya, yc, rfl, _, _, _⟩ := id h1
        obtain ⟨yx, yd, rfl, _, _, _⟩ := id h2
        obtain ⟨j, m, hj1, hj2, hj3, hj4⟩ := slash_nat y.path
        have Hsl := Lib.hid (fun w => (lib_LastSlash y.path (by omega) w).mono (fun e w' h => (⟨h.1, by rw [h.2]; exact Below.refl _ _⟩ : e = .returned (.int .i64 (slashAt y.path)) ∧ Below w.heap.size w w')))
        rw [hj1] at Hsl
        have Hyo := Lib.hid hyo
        have Hy1 := Lib.hid h1
        have Hy2 := Lib.hid h2
        have hll := lastP_len y.path
        have hkl := netP_len (lastP y.path) (by omega)
        have hkm := merkP_len sumP sumP_len n t y
        have hkn := netP_len (merkP sumP n t y) (by omega)
        have Hme := Lib.hid (fun w hw hc => Hih.out I2 (HI.out.mono HK2.out) _ (Hv.out.mono HK2.out) y _ _ Hy1.out Hy2.out Hyo.out Hym.out.2 (HT.out.dir y Hym.out.1.1) w hw bn bt bd B hc)
        have hns : netsP [lastP y.path, merkP sumP n t y] = netP (lastP y.path) ++ netP (merkP sumP n t y) := by simp [netsP]
        have hnsl : (netsP [lastP y.path, merkP sumP n t y]).length ≤ 1000 := by rw [hns, List.length_append]; omega
        have Hns := Lib.hid (fun b w hv hw => net_Strings I2 (HI.out.mono HK2.out) b 0 2 2 [lastP y.path, merkP sumP n t y] rfl (by simp) (by unfold maxLen; omega) w hv (by omega) hw)
        rw [hns] at Hns
        have Hlast := Lib.hid hj4
        have HB := Lib.hid (entB (n := wr.heap.size) (e := y) (va := .slice ya y.attrs.length yc) (vx := .slice yx y.exts.length yd) (t := 26) rfl (Below.refl _ _))
        have hokB := hwr.alloc (.cells #[.int .i64 y.kind, S y.path, .slice ya y.attrs.length yc, S y.target, .int .i64 y.size, S y.digest, .slice yx y.exts.length yd] 26)
        have hbB := hb.alloc hb.size (.cells #[.int .i64 y.kind, S y.path, .slice ya y.attrs.length yc, S y.target, .int .i64 y.size, S y.digest, .slice yx y.exts.length yd] 26)
        have HcB := Lib.hid (Hcr.out.past (.cells #[.int .i64 y.kind, S y.path, .slice ya y.attrs.length yc, S y.target, .int .i64 y.size, S y.digest, .slice yx y.exts.length yd] 26))
        have HoB := Lib.hid (Hown.out.alloc (.cells #[.int .i64 y.kind, S y.path, .slice ya y.attrs.length yc, S y.target, .int .i64 y.size, S y.digest, .slice yx y.exts.length yd] 26))
        clear hly h1 h2 hym hyo hj1 hj4 hns hnsl Hown Hcr
        obtain ⟨y0, y1, y2, y3, y4, y5, y6⟩ := HB.out
        have x1 := cell_regrown y1
        have w1' : IntKind.i64.wrap (j + 1) = (m : Int) := by rw [hj2]; exact IntWalk.i64_in _ (by omega)
        have w2' : (0 : Int) ≤ (m : Int) := by omega
        have w3' : (m : Int) ≤ (y.path.length : Int) := by omega
        have w4' : ((m : Int)).toNat = m := by omega
        generalize lastP y.path = lp at Hst hll hkl Hns Hlast
        generalize merkP sumP n t y = mk at Hst hkm hkn Hme Hns
        generalize P (L.take k) = u at Hst hPl hPn HoB
        clear hj2
        go_wp2_with fail
        refine wp_region_quiet_below (by kernel_rfl) (by kernel_rfl) ?_
        repeat (go_big_quiet_step ((with_reducible first | exact Calls.regrown_of (Hsl.out _))))
        refine wpQuiet_nil ?_
        intro w5 hwq
        have hb5 : Below ((wr.alloc (.cells #[.int .i64 y.kind, S y.path, .slice ya y.attrs.length yc, S y.target, .int .i64 y.size, S y.digest, .slice yx y.exts.length yd] 26))).heap.size ((wr.alloc (.cells #[.int .i64 y.kind, S y.path, .slice ya y.attrs.length yc, S y.target, .int .i64 y.size, S y.digest, .slice yx y.exts.length yd] 26))) w5 := by
          obtain ⟨pq, rfl⟩ := hwq
          exact below_regrown _ _ _
        clear hwq
        have Hlp := Lib.hid (show List.take (y.path.length - m) (List.drop m y.path) = lp by rw [List.take_of_length_le (by simp)]; exact Hlast.out)
        rw [Hlp.out]
        have HB5 := Lib.hid (HB.out.thru hb5)
        have hc5 := HcB.out.thru hb5
        have hok5 : Ok I2 w5 := hokB.below (Nat.le_refl _) hb5
        have hb5' := hbB.trans (hb5.mono hbB.size)
        have Ho5 := Lib.hid (HoB.out.below hb5)
        have g3 := hc5.self
        have Hc5 := Lib.hid hc5
        obtain ⟨T, hT⟩ : ∃ T, netP lp ++ netP mk = T := ⟨_, rfl⟩
        have hTl : T.length ≤ 1000 := by rw [← hT, List.length_append]; omega
        rw [hT] at Hns Hst
        clear hb5 hbB hokB HB HcB HoB y0 y1 y2 y3 y4 y5 y6 x1 hT hc5 w1' w2' w3' w4'
        obtain ⟨y0, y1, y2, y3, y4, y5, y6⟩ := HB5.out
        go_wp2_with fail
        refine (Hme.out _ hok5 Hc5.out).mono ?_
        rintro e6 w6 ⟨rfl, hb6⟩
        have hok6 : Ok I2 w6 := hok5.below (Nat.le_refl _) hb6
        have hb6' := hb5'.trans (hb6.mono hb5'.size)
        have Ho6 := Lib.hid ((Ho5.out.below hb6).alloc (.cells #[S lp, S mk] 9))
        have HS := Lib.hid (strsAt_new w6 [lp, mk] 9)
        have hb6a := hb6'.alloc hb6'.size (.cells #[S lp, S mk] 9)
        clear hb6 hb5' y0 y1 y2 y3 y4 y5 y6 g3 Ho5 HB5
        go_wp2_with fail
        refine (Hns.out _ _ HS.out (hok6.alloc _)).mono ?_
        rintro e7 w7 ⟨rfl, hb7⟩
        have Ho7 := Lib.hid (Ho6.out.below hb7)
        have hb7' := hb6a.trans (hb7.mono hb6a.size)
        have hs7 := hb7'.size
        clear hb7 hb6a hb6' Ho6
        go_wp2_with (at_builtin; refine wpList_append1 (w0 := w7) str_elem rfl _ _ rfl _ _ _ rfl Ho7.out T [S T] _ rfl rfl (by omega) (by omega) hs7 ?_)
        intro v9 w9 hown9 hg9
        have hb9 := Below.own hb7' hg9 Ho7.out (Nat.le_refl _) hs7
        go_wp2
        go_roundw
        case rel => exact ⟨k + 1, by omega, by go_num, hown9.castD Hst.out.symm, hb9⟩
        case measure => simp [intOf]; omega
      · have hall : L.take k = L := List.take_of_length_le (by omega)
        rw [hall] at hPl hPn Hown
        have Hm := Lib.hid HP.out.fin
        generalize P L = u at hPl hPn Hm Hown
        clear hall
        obtain ⟨g, cap', rfl, hcp, hgl, hsa⟩ := own_strsAt Hown.out (by intro e; rw [e] at hPn; simp at hPn)
        have Hsa := Lib.hid hsa
        have Hpn := Lib.hid hPn
        have hul : u.length ≤ 1000000 := by omega
        clear hsa hPn
        go_wp2_with fail
        refine (blk_SumN g 0 cap' u.length u rfl u.flatten rfl (by omega) _ Hsa.out hcp hgl hul).mono ?_
        rintro e5 w5 ⟨rfl, hb5⟩
        go_wp2
        go_ret
        have hbz := hb.trans (hb5.mono hb.size)
        exact ⟨ret_s Hm.out.symm, hb2'.trans (hbz.mono hs2)⟩
end Go.Proofs.YtcbmdghnlbieeaaGreatDoor
namespace Go.Proofs.YtcbmdghnlbieeaaGreatDoor
open Go.RowKit

/-- What Digest returns. -/
def digE (t : List Ent) (p : Bytes) : Bytes × Int := if p = [] then (merkP sumP 10 t rootE, 0) else match getT t p with | none => ([], 9) | some x => (merkP sumP 10 t x, 0)
theorem deep_ten (x : Ent) : Deep 10 x := by unfold Deep; omega
theorem root_dir (t : List Ent) : rootE.kind = 2 → dirErr t rootE.path = 0 := fun _ => by unfold dirErr; rw [if_pos (show rootE.path = [] from rfl)]
theorem digE_root (t : List Ent) {p : Bytes} (h : p = []) : digE t p = (merkP sumP 10 t rootE, 0) := by rw [digE, if_pos h]
theorem digE_get {t : List Ent} {p : Bytes} {x : Ent} {ok : Bool} (hp : p ≠ []) (h : getE t p = (x, ok)) : (ok = false ∧ digE t p = ([], 9)) ∨ (ok = true ∧ x ∈ t ∧ digE t p = (merkP sumP 10 t x, 0)) := by
  unfold getE at h
  rw [digE, if_neg hp]
  cases hg : getT t p with
  | none => rw [hg] at h; cases h; exact .inl ⟨rfl, rfl⟩
  | some z =>
    rw [hg] at h
    cases h
    exact .inr ⟨rfl, List.mem_of_find?_eq_some hg, rfl⟩
theorem ret_d {d : Bytes × Int} {s : Bytes} {n : Int} (h : d = (s, n)) : Ending.returned (.tuple #[S s, .int .i64 n]) = .returned (.tuple #[S d.1, .int .i64 d.2]) := by rw [h]

set_option maxRecDepth 100000 in
set_option maxHeartbeats 1000000 in
theorem ref37_Digest (I : IH) (hI : Glob I) (v : Value) (t : List Ent) (hv : RdS tEnt I v t) (hT : DgT t) (p : Bytes) (w : World) (hw : Ok I w) :
    Calls Tryz.prog 28 #[v, S p] w fun e w' => e = .returned (.tuple #[S (digE t p).1, .int .i64 (digE t p).2]) ∧ Below w.heap.size w w' := by
  have Hg := Lib.hid (ref37_Get I v t hv p w hw)
  have Hm := Lib.hid (fun x va vx hva hvx hx hdr w hw => ref37_merkle t hT 10 I hI v hv x va vx hva hvx hx (deep_ten x) hdr w hw)
  obtain ⟨ao, cap, rfl, hcap, hcm, _⟩ := id hv
  have HT := Lib.hid hT
  clear hv hT
  by_cases hp : p = []
  · obtain ⟨p1, p2, p3, p4⟩ := eq_emp hp
    have Hn := Lib.hid (digE_root t hp)
    clear hp
    go_enter Tryz.func28, Tryz.ntmps28
    go_wp2_with fail
    refine (Hm.out rootE (.slice none 0 0) (.slice none 0 0) (RdS.nil _ _) (RdS.nil _ _) dgOk_root (root_dir t) _ hw).mono ?_
    rintro e w1 ⟨rfl, hb1⟩
    go_wp2
    go_ret2
    exact ⟨ret_d Hn.out, hb1⟩
  · obtain ⟨p1, p2, p3, p4⟩ := ne_emp hp
    obtain ⟨x, ok, hg⟩ : ∃ x ok, getE t p = (x, ok) := ⟨_, _, rfl⟩
    have hgc := digE_get hp hg
    rw [hg] at Hg
    clear hp hg
    rcases hgc with ⟨rfl, hn⟩ | ⟨rfl, hxt, hn⟩
    all_goals
      have Hn := Lib.hid hn
      clear hn
      go_enter Tryz.func28, Tryz.ntmps28
      go_wp2_with fail
      refine Hg.out.mono ?_
      rintro e w1 ⟨va, vx, rfl, h1, h2, hb1⟩
      obtain ⟨aa, ca, rfl, _, _, _⟩ := id h1
      obtain ⟨ax, cx, rfl, _, _, _⟩ := id h2
      have hok1 : Ok I w1 := hw.below (Nat.le_refl _) hb1
    · clear h1 h2
      go_wp2
      go_ret2
      exact ⟨ret_d Hn.out, hb1.alloc hb1.size _⟩
    · have Hx := Lib.hid (fun w hw => Hm.out x _ _ h1 h2 (HT.out.ok x hxt) (HT.out.dir x hxt) w hw)
      clear h1 h2 hxt
      go_wp2_with fail
      refine (Hx.out _ (hok1.alloc _)).mono ?_
      rintro e2 w2 ⟨rfl, hb2⟩
      go_wp2
      go_ret2
      exact ⟨ret_d Hn.out, (hb1.alloc hb1.size _).trans (hb2.mono (by have := hb1.size; simp; omega))⟩

/-- The memory that Digest has laid when it first looks at the tree. -/
abbrev capF (w : World) : Value := .func (.func 57) #[] #[.pointer (some ⟨w.heap.size + 1 + 1, 0, none⟩), .pointer (some ⟨w.heap.size, 0, none⟩), .pointer (some ⟨w.heap.size + 1 + 1 + 1, 0, none⟩)]
abbrev capW (w : World) (v : Value) : World := (((w.alloc (.cells #[v] 22)).alloc (.map kindEs 3)).alloc (.cells #[.map (some (w.heap.size + 1))] 70)).alloc (.cells #[capF w] 72)
theorem capD_made (w : World) (v : Value) : CapD (capW w v) (w.heap.size + 1 + 1) w.heap.size (w.heap.size + 1 + 1 + 1) (w.heap.size + 1) v := by
  have e0 : (w.alloc (.cells #[v] 22)).heap[w.heap.size]? = some (.cells #[v] 22) := heap_alloc_new w _
  have e1 := heap_alloc_new (w.alloc (.cells #[v] 22)) (.map kindEs 3)
  rw [show (w.alloc (.cells #[v] 22)).heap.size = w.heap.size + 1 by simp] at e1
  have e2 := heap_alloc_new ((w.alloc (.cells #[v] 22)).alloc (.map kindEs 3)) (.cells #[.map (some (w.heap.size + 1))] 70)
  rw [show ((w.alloc (.cells #[v] 22)).alloc (.map kindEs 3)).heap.size = w.heap.size + 1 + 1 by simp] at e2
  have e3 := heap_alloc_new (((w.alloc (.cells #[v] 22)).alloc (.map kindEs 3)).alloc (.cells #[.map (some (w.heap.size + 1))] 70)) (.cells #[capF w] 72)
  rw [show (((w.alloc (.cells #[v] 22)).alloc (.map kindEs 3)).alloc (.cells #[.map (some (w.heap.size + 1))] 70)).heap.size = w.heap.size + 1 + 1 + 1 by simp] at e3
  have b2 := (Below.heap_alloc _ (.cells #[capF w] 72) (w.heap.size + 1 + 1) (by simp)).trans e2
  have b1 := (Below.heap_alloc _ (.cells #[capF w] 72) (w.heap.size + 1) (by simp [Nat.add_assoc])).trans ((Below.heap_alloc _ (.cells #[.map (some (w.heap.size + 1))] 70) _ (by simp)).trans e1)
  have b0 := (Below.heap_alloc _ (.cells #[capF w] 72) w.heap.size (by simp [Nat.add_assoc])).trans ((Below.heap_alloc _ (.cells #[.map (some (w.heap.size + 1))] 70) _ (by simp [Nat.add_assoc])).trans ((Below.heap_alloc _ (.map kindEs 3) _ (by simp)).trans e0))
  exact ⟨(cell_of_row _ _ 0 _ _ _ b2).trans rfl, b1, (cell_of_row _ _ 0 _ _ _ b0).trans rfl, (cell_of_row _ _ 0 _ _ _ e3).trans rfl⟩
theorem capW_below (w : World) (v : Value) : Below w.heap.size w (capW w v) :=
  ((((Below.refl _ _).alloc (Nat.le_refl _) _).alloc (by simp) _).alloc (by simp [Nat.add_assoc]) _).alloc (by simp [Nat.add_assoc]) _

set_option maxRecDepth 100000 in
set_option maxHeartbeats 2000000 in
theorem dt_Digest (I : IH) (hI : Glob I) (v : Value) (t : List Ent) (hv : RdS tEnt I v t) (hT : DgT t) (p : Bytes) (w : World) (hw : Ok I w) :
    Calls Tryz.prog 27 #[v, S p] w fun e w' => e = .returned (.tuple #[S (digE t p).1, .int .i64 (digE t p).2]) ∧ Below w.heap.size w w' := by
  have Hg := Lib.hid (fun w hw => dt_Get I v t hv p w hw)
  have Hm := Lib.hid (fun x va vx hva hvx hx hdr w hw bn bt bd B hc => dt_digest t hT 10 I hI v hv x va vx hva hvx hx (deep_ten x) hdr w hw bn bt bd B hc)
  obtain ⟨ao, cap, rfl, hcap, hcm, _⟩ := id hv
  have HT := Lib.hid hT
  clear hv hT
  have HC := Lib.hid (capD_made w (.slice ao t.length cap))
  have HCb := Lib.hid (capW_below w (.slice ao t.length cap))
  have hokC : Ok I (capW w (.slice ao t.length cap)) := hw.below (Nat.le_refl _) HCb.out
  have r3 := HC.out.tree
  simp only [capW, capF] at r3
  obtain ⟨x, ok, hg⟩ : ∃ x ok, getE t p = (x, ok) := ⟨_, _, rfl⟩
  rw [hg] at Hg
  by_cases hp : p = []
  · obtain ⟨p1, p2, p3, p4⟩ := eq_emp hp
    have Hn := Lib.hid (digE_root t hp)
    clear hp hg
    have hi7 : (Tryz.prog.info? 26).map (·.size) = some 7 := by kernel_rfl
    have hone : (entRow rootE (.slice none 0 0) (.slice none 0 0)).all (·.oneCell') = true := by simp [Value.oneCell']
    go_enter Tryz.func27, Tryz.ntmps27
    go_wp2_with fail
    refine (dt_kinds _).mono ?_
    rintro e w1 ⟨rfl, rfl⟩
    go_wp2_with fail
    refine (Hg.out _ hokC).mono ?_
    rintro e w1 ⟨va, vx, rfl, h1, h2, hb1⟩
    obtain ⟨aa, ca, rfl, _, _, _⟩ := id h1
    obtain ⟨ax, cx, rfl, _, _, _⟩ := id h2
    have hc1 := HC.out.thru hb1
    have hok1 : Ok I w1 := hokC.below (Nat.le_refl _) hb1
    have hb1' := HCb.out.trans (hb1.mono HCb.out.size)
    have hbz := heap_alloc_new w1 (.cells #[.int .i64 x.kind, S x.path, .slice aa x.attrs.length ca, S x.target, .int .i64 x.size, S x.digest, .slice ax x.exts.length cx] 26)
    clear h1 h2 r3 hb1
    go_upto_region 9 with (refine wpList_store_row rfl 26 _ _ rfl w1.heap.size (entRow rootE (.slice none 0 0) (.slice none 0 0)) rfl rfl 26 (entRow x (.slice aa x.attrs.length ca) (.slice ax x.exts.length cx)) hbz hi7 rfl hone ?_)
    have hbs : Below w1.heap.size w1 ((w1.alloc (.cells #[.int .i64 x.kind, S x.path, .slice aa x.attrs.length ca, S x.target, .int .i64 x.size, S x.digest, .slice ax x.exts.length cx] 26)).setRow w1.heap.size (entRow rootE (.slice none 0 0) (.slice none 0 0))) := below_setRow ((Below.refl _ _).alloc (Nat.le_refl _) _) (Nat.le_refl _) _
    have hrow : ((w1.alloc (.cells #[.int .i64 x.kind, S x.path, .slice aa x.attrs.length ca, S x.target, .int .i64 x.size, S x.digest, .slice ax x.exts.length cx] 26)).setRow w1.heap.size (entRow rootE (.slice none 0 0) (.slice none 0 0))).heap[w1.heap.size]? = some (.cells (entRow rootE (.slice none 0 0) (.slice none 0 0)) 26 (0, 0)) := setRow_heap _ _ _ _ _ _ hbz
    generalize (w1.alloc (.cells #[.int .i64 x.kind, S x.path, .slice aa x.attrs.length ca, S x.target, .int .i64 x.size, S x.digest, .slice ax x.exts.length cx] 26)).setRow w1.heap.size (entRow rootE (.slice none 0 0) (.slice none 0 0)) = w2 at hbs hrow ⊢
    have hc2 := hc1.thru hbs
    have Hc2 := Lib.hid hc2
    have hok2 : Ok I w2 := hok1.below (Nat.le_refl _) hbs
    have hb2' := hb1'.trans (hbs.mono hb1'.size)
    have g3 := hc2.self
    have d0 : w2.cell? ⟨w1.heap.size, 0, none⟩ = some (.int .i64 2) := (cell_of_row _ _ 0 _ _ _ hrow).trans rfl
    have d1 : w2.cell? ⟨w1.heap.size, 1, none⟩ = some (S []) := (cell_of_row _ _ 1 _ _ _ hrow).trans rfl
    have d2 : w2.cell? ⟨w1.heap.size, 2, none⟩ = some (.slice none 0 0) := (cell_of_row _ _ 2 _ _ _ hrow).trans rfl
    have d3 : w2.cell? ⟨w1.heap.size, 3, none⟩ = some (S []) := (cell_of_row _ _ 3 _ _ _ hrow).trans rfl
    have d4 : w2.cell? ⟨w1.heap.size, 4, none⟩ = some (.int .i64 0) := (cell_of_row _ _ 4 _ _ _ hrow).trans rfl
    have d5 : w2.cell? ⟨w1.heap.size, 5, none⟩ = some (S []) := (cell_of_row _ _ 5 _ _ _ hrow).trans rfl
    have d6 : w2.cell? ⟨w1.heap.size, 6, none⟩ = some (.slice none 0 0) := (cell_of_row _ _ 6 _ _ _ hrow).trans rfl
    clear hrow hbz hbs hc2
    go_wp2_with fail
    refine (Hm.out rootE (.slice none 0 0) (.slice none 0 0) (RdS.nil _ _) (RdS.nil _ _) dgOk_root (root_dir t) _ hok2 _ _ _ _ Hc2.out).mono ?_
    rintro e w3 ⟨rfl, hb3⟩
    go_wp2
    go_ret2
    exact ⟨ret_d Hn.out, hb2'.trans (hb3.mono hb2'.size)⟩
  · obtain ⟨p1, p2, p3, p4⟩ := ne_emp hp
    have hgc := digE_get hp hg
    clear hp hg
    rcases hgc with ⟨rfl, hn⟩ | ⟨rfl, hxt, hn⟩
    all_goals
      have Hn := Lib.hid hn
      clear hn
      go_enter Tryz.func27, Tryz.ntmps27
      go_wp2_with fail
      refine (dt_kinds _).mono ?_
      rintro e w1 ⟨rfl, rfl⟩
      go_wp2_with fail
      refine (Hg.out _ hokC).mono ?_
      rintro e w1 ⟨va, vx, rfl, h1, h2, hb1⟩
      obtain ⟨aa, ca, rfl, _, _, _⟩ := id h1
      obtain ⟨ax, cx, rfl, _, _, _⟩ := id h2
      have hok1 : Ok I w1 := hokC.below (Nat.le_refl _) hb1
      have hb1' := HCb.out.trans (hb1.mono HCb.out.size)
      have Hc1 := Lib.hid ((HC.out.thru hb1).past (.cells #[.int .i64 x.kind, S x.path, .slice aa x.attrs.length ca, S x.target, .int .i64 x.size, S x.digest, .slice ax x.exts.length cx] 26))
      have g3 := Hc1.out.self
      clear r3 hb1
    · clear h1 h2
      go_wp2
      go_ret2
      exact ⟨ret_d Hn.out, hb1'.alloc hb1'.size _⟩
    · have Hx := Lib.hid (fun w hw bn bt bd B hc => Hm.out x _ _ h1 h2 (HT.out.ok x hxt) (HT.out.dir x hxt) w hw bn bt bd B hc)
      clear h1 h2 hxt
      go_wp2_with fail
      refine (Hx.out _ (hok1.alloc _) _ _ _ _ Hc1.out).mono ?_
      rintro e2 w2 ⟨rfl, hb2⟩
      go_wp2
      go_ret2
      exact ⟨ret_d Hn.out, (hb1'.alloc hb1'.size _).trans (hb2.mono (by have := hb1'.size; simp; omega))⟩
end Go.Proofs.YtcbmdghnlbieeaaGreatDoor
