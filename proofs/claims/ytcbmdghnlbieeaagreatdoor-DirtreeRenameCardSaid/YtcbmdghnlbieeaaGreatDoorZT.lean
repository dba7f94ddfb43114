/-
  Plain laws of trees of entries: what the invariant asks of one entry. No program. The laws of layer 37: DirtreeInvariant: its walk.
-/
import Derived.Test.YtcbmdghnlbieeaaGreatDoorZJ
import Derived.Test.YtcbmdghnlbieeaaGreatDoorZS
namespace Go.Proofs.YtcbmdghnlbieeaaGreatDoor

theorem inv_self {t x : List Ent} (h : OkT t) {e : Ent} (ha : applyT t e = (x, 0)) (hk : e.kind ≤ 3) : getT x e.path = some e := by
  obtain ⟨_, rfl⟩ := applyT_iff.1 ha
  exact getT_mem (opT_srt h.srt e) ((opT_mem h.srt e e).2 (.inl ⟨hk, rfl⟩))
theorem inv_gone {t x : List Ent} (h : OkT t) {e : Ent} (ha : applyT t e = (x, 0)) {y : Ent} (hk : e.kind = 4) (hu : under y.path e.path = true) : getT x y.path = none := by
  obtain ⟨_, rfl⟩ := applyT_iff.1 ha
  refine getT_none fun z hz k => ?_
  rcases (opT_mem h.srt e z).1 hz with ⟨q, _⟩ | ⟨_, q⟩
  · omega
  · have := q.2 hk
    rw [k, hu] at this
    exact absurd this (by simp)
theorem inv_stays {t x : List Ent} (h : OkT t) {e : Ent} (ha : applyT t e = (x, 0)) {y : Ent} (hy : y ∈ t) (hn : ¬ (e.kind = 4 ∧ under y.path e.path = true)) : ∃ z, getT x y.path = some z ∧ (y.path ≠ e.path → z = y) := by
  obtain ⟨_, rfl⟩ := applyT_iff.1 ha
  by_cases hp : e.kind ≤ 3 ∧ y.path = e.path
  · refine ⟨e, ?_, fun q => absurd hp.2 q⟩
    rw [hp.2]
    exact getT_mem (opT_srt h.srt e) ((opT_mem h.srt e e).2 (.inl ⟨hp.1, rfl⟩))
  · refine ⟨y, getT_mem (opT_srt h.srt e) ((opT_mem h.srt e y).2 (.inr ⟨hy, ⟨fun k q => hp ⟨k, q⟩, fun k => ?_⟩⟩)), fun _ => rfl⟩
    cases hu : under y.path e.path with
    | false => rfl
    | true => exact absurd ⟨k, hu⟩ hn
theorem inv_check {t x : List Ent} (h : OkT t) {e : Ent} (ha : applyT t e = (x, 0)) : chkT x = 0 := (chkT_eq x).2 (applyT_ok h ha)
theorem chkT_nil : chkT [] = 0 := rfl
end Go.Proofs.YtcbmdghnlbieeaaGreatDoor
namespace Go.Proofs.YtcbmdghnlbieeaaGreatDoor
open Go.RowKit

/-- What stands at the head of the law's loop. -/
structure InvT (I J : IH) (k : Nat) (v : Value) (t : List Ent) (w : World) : Prop where
  rd : RdS tEnt J v t
  ok : OkT t
  all : AllE t
  gr : ∀ x ∈ t, greatE x = false
  len : t.length ≤ k
  keep : ∀ b c, I b = some c → J b = some c
  hok : Ok J w
theorem invT_nil {I : IH} {w : World} (h : Ok I w) : InvT I I 0 (.slice none 0 0) [] w :=
  ⟨RdS.nil _ _, (chkT_eq []).1 rfl, fun _ h => (by cases h), fun _ h => (by cases h), Nat.le_refl _, fun _ _ h => h, h⟩

set_option maxRecDepth 100000 in
set_option maxHeartbeats 4000000 in
theorem law_DirtreeInvariant (I : IH) (hI : Glob I) (v : Value) (l : List Ent) (hv : RdS tEnt I v l) (hl : AllE l) (w : World) (hw : Ok I w) :
    Calls Tryz.prog 6 #[v] w fun r w' => r = .returned (.bool true) ∧ Below w.heap.size w w' := by
  have hlen := hv.len_le
  have Hal := Lib.hid (fun w hw => law_alive37 I hI w hw)
  have HI := Lib.hid hI
  obtain ⟨ao, cap, rfl, hcap, hcm, _⟩ := id hv
  have Hv := Lib.hid hv; clear hv
  have Hl := Lib.hid hl; clear hl hI
  by_cases h30 : 30 < l.length
  case pos =>
    go_enter Tryz.func6, Tryz.ntmps6
    go_wp2_with fail
    refine (Hal.out _ hw).mono ?_
    rintro e w1 ⟨rfl, hb1⟩
    go_wp2
    go_ret
    exact ⟨rfl, hb1⟩
  go_enter Tryz.func6, Tryz.ntmps6
  go_wp2_with fail
  refine (Hal.out _ hw).mono ?_
  rintro e w1 ⟨rfl, hb1⟩
  have hok1 : Ok I w1 := hw.below (Nat.le_refl _) hb1
  go_wp2_with fail
  go_loopw [3, 22] (fun s3 s22 wr => ∃ (k : Nat) (t : List Ent) (J : IH), k ≤ l.length ∧ s22 = .int .i64 k ∧ InvT I J k s3 t wr ∧ Below w1.heap.size w1 wr) (fun _ i _ => l.length - (intOf i).toNat)
  case atStart => exact ⟨0, [], I, Nat.zero_le _, rfl, invT_nil hok1, Below.refl _ _⟩
  case round =>
    obtain ⟨k, t, J, hk, rfl, hinv, hb⟩ := hrel
    have Hinv := Lib.hid hinv
    obtain ⟨sa, sc, rfl⟩ := hinv.rd.sl (n := t.length) rfl
    clear hinv
    have hwr : Ok I wr := hok1.below (Nat.le_refl _) hb
    by_cases hlt : k < l.length
    case neg =>
      go_wp2
      go_ret
      exact ⟨rfl, hb1.trans (hb.mono hb1.size)⟩
    obtain ⟨e, va, vx, b, off, cap', hle, hvv, ⟨c0, c1, c2, c3, c4, c5, c6⟩, h1, h2⟩ := entAt Hv.out hwr k hlt
    cases hvv
    have hewf : e.Wf := Hl.out e (by rw [← hle]; exact List.getElem_mem hlt)
    have Hewf := Lib.hid hewf
    obtain ⟨aa, ca, rfl, _, _, _⟩ := id h1
    obtain ⟨ax, cx, rfl, _, _, _⟩ := id h2
    have Ha := Lib.hid (h1.mono Hinv.out.keep)
    have Hx := Lib.hid (h2.mono Hinv.out.keep)
    have Hsm := Lib.hid (fun w hw => law_small J e _ _ Ha.out Hx.out Hewf.out w hw)
    clear hle h1 h2 hewf
    go_wp2_with fail
    refine (Hsm.out _ (Hinv.out.hok.alloc _)).mono ?_
    rintro e2 w2 ⟨rfl, hb2⟩
    have HB2 := Lib.hid (entB (e := e) rfl hb2)
    have hok2 := (Hinv.out.hok.alloc _).below (Nat.le_refl _) hb2
    have hb2' : Below w1.heap.size w1 w2 := (hb.alloc hb.size _).trans (hb2.mono (by have := hb.size; simp; omega))
    clear hb2 c0 c1 c2 c3 c4 c5 c6
    cases hge : greatE e
    case true =>
      go_wp2
      go_ret
      exact ⟨rfl, hb1.trans (hb2'.mono hb1.size)⟩
    have hnn := great_no hge
    have Hge := Lib.hid hge
    clear hge
    obtain ⟨x, n, ha⟩ : ∃ x n, applyT t e = (x, n) := ⟨_, _, rfl⟩
    have Hap := Lib.hid ha
    clear ha
    have hl3 := Hinv.out.len
    have HIJ := Lib.hid (HI.out.mono Hinv.out.keep)
    obtain ⟨c0, c1, c2, c3, c4, c5, c6⟩ := HB2.out
    go_wp2_with fail
    refine (dt_Apply_at J HIJ.out _ t Hinv.out.rd (sml_of Hinv.out.gr) Hinv.out.ok.srt (by omega) e _ _ Ha.out Hx.out Hewf.out (by omega) (by omega) Hap.out _ hok2).mono ?_
    rintro e3 w3 ⟨v3, J3, rfl, hb3, hx3, hok3, hr3⟩
    clear c0 c1 c2 c3 c4 c5 c6
    have Hk3 := Lib.hid (hx3.keep hok2 (Nat.le_refl _))
    obtain ⟨xa, xc, rfl⟩ := hr3.sl (n := x.length) rfl
    have Hr3 := Lib.hid hr3
    have HB3 := Lib.hid (HB2.out.thru hb3)
    have hb3' := hb2'.trans (hb3.mono hb2'.size)
    have hokJ := hok2.below (Nat.le_refl _) hb3
    clear hr3 hx3 hb3 HB2
    by_cases hn0 : n = 0
    case neg =>
      have hn1 : (n != 0) = true := by simpa using hn0
      go_wp2
      go_roundw
      case rel => exact ⟨k + 1, t, J, by omega, by go_num, ⟨Hinv.out.rd, Hinv.out.ok, Hinv.out.all, Hinv.out.gr, by omega, Hinv.out.keep, hokJ⟩, hb3'⟩
      case measure => simp [intOf]; omega
    subst hn0
    have Ht3 := Lib.hid (applyT_ok Hinv.out.ok Hap.out)
    have hl4 := app_len Hap.out
    have Hall := Lib.hid (app_all Hinv.out.ok Hinv.out.all Hewf.out Hap.out)
    have Hgr := Lib.hid (app_great Hinv.out.ok Hinv.out.gr Hge.out Hap.out)
    have HI3 := Lib.hid (HIJ.out.mono Hk3.out)
    have Hck := Lib.hid (fun w hw => dt_Check J3 _ x Hr3.out HI3.out Hall.out (sml_of Hgr.out) w hw)
    rw [inv_check Hinv.out.ok Hap.out] at Hck
    go_wp2_with fail
    refine (Hck.out _ hok3).mono ?_
    rintro e4 w4 ⟨rfl, hb4⟩
    have HB4 := Lib.hid (HB3.out.thru hb4)
    have hok4 := hok3.below (Nat.le_refl _) hb4
    have hb4' := hb3'.trans (hb4.mono hb3'.size)
    clear hb4 hb3' HB3 hok3 hokJ
    go_wp2_with fail
    go_loopw [42] (fun s42 wr => ∃ j : Nat, j ≤ t.length ∧ s42 = .int .i64 j ∧ Below w4.heap.size w4 wr) (fun i _ => t.length - (intOf i).toNat)
    case atStart => exact ⟨0, Nat.zero_le _, rfl, Below.refl _ _⟩
    case round =>
      obtain ⟨j, hj, rfl, hbq⟩ := hrel
      have hokq : Ok J3 wr := hok4.below (Nat.le_refl _) hbq
      have HBq := Lib.hid (HB4.out.thru hbq)
      by_cases hjt : j < t.length
      case pos =>
        obtain ⟨y, vb, vy, b', off', cap'', hly, hvv, ⟨y0, y1, y2, y3, y4, y5, y6⟩, g1, g2⟩ := entAt (Hinv.out.rd.mono Hk3.out) hokq j hjt
        cases hvv
        have Hym := Lib.hid (show y ∈ t by rw [← hly]; exact List.getElem_mem hjt)
        obtain ⟨ya, yc, rfl, _, _, _⟩ := id g1
        obtain ⟨yx, yd, rfl, _, _, _⟩ := id g2
        have HG1 := Lib.hid g1
        have HG2 := Lib.hid g2
        have hyl := great_no (Hinv.out.gr y Hym.out)
        have Hget := Lib.hid (fun w hw => dt_Get J3 _ x Hr3.out y.path w hw)
        have Hun := Lib.hid (fun w hw => pn_Under J3 HI3.out y.path e.path (by omega) (by omega) w hw)
        clear hly g1 g2
        by_cases hu : e.kind = 4 ∧ under y.path e.path = true
        · obtain ⟨z, hz⟩ : ∃ z, zeroE = z := ⟨_, rfl⟩
          rw [show getE x y.path = (z, false) by rw [getE, inv_gone Hinv.out.ok Hap.out hu.1 hu.2, hz]] at Hget
          rw [hu.2] at Hun
          have k4 : ((e.kind : Int) == 4) = true := by simpa using hu.1
          clear hu hz
          go_wp2_with fail
          refine (Hget.out _ (hokq.alloc _)).mono ?_
          rintro e5 w5 ⟨vz, vw, rfl, g1, g2, hb5⟩
          obtain ⟨za, zc, rfl, _, _, _⟩ := id g1
          obtain ⟨zx, zd, rfl, _, _, _⟩ := id g2
          have HZ1 := Lib.hid g1
          have HZ2 := Lib.hid g2
          have hok5 := (hokq.alloc _).below (Nat.le_refl _) hb5
          have HY5 := Lib.hid (entB (e := y) rfl hb5)
          have HB5 := Lib.hid ((HBq.out.past _).thru hb5)
          have hb5' : Below w4.heap.size w4 w5 := (hbq.alloc hbq.size _).trans (hb5.mono (by have := hbq.size; simp; omega))
          clear y0 y1 y2 y3 y4 y5 y6 hb5 g1 g2
          have hb6' : Below w4.heap.size w4 (w5.alloc (.cells #[.int .i64 z.kind, S z.path, .slice za z.attrs.length zc, S z.target, .int .i64 z.size, S z.digest, .slice zx z.exts.length zd] 26)) := hb5'.alloc hb5'.size _
          have hok6 := hok5.alloc (.cells #[.int .i64 z.kind, S z.path, .slice za z.attrs.length zc, S z.target, .int .i64 z.size, S z.digest, .slice zx z.exts.length zd] 26)
          have HB6 := Lib.hid (HB5.out.past (.cells #[.int .i64 z.kind, S z.path, .slice za z.attrs.length zc, S z.target, .int .i64 z.size, S z.digest, .slice zx z.exts.length zd] 26))
          have HY6 := Lib.hid (HY5.out.past (.cells #[.int .i64 z.kind, S z.path, .slice za z.attrs.length zc, S z.target, .int .i64 z.size, S z.digest, .slice zx z.exts.length zd] 26))
          have HZ6 := Lib.hid (entB (n := w5.heap.size) (e := z) (va := .slice za z.attrs.length zc) (vx := .slice zx z.exts.length zd) (t := 26) rfl (Below.refl _ _))
          obtain ⟨c0, c1, c2, c3, c4, c5, c6⟩ := HB6.out
          obtain ⟨y0, y1, y2, y3, y4, y5, y6⟩ := HY6.out
          obtain ⟨z0, z1, z2, z3, z4, z5, z6⟩ := HZ6.out
          go_wp2_with fail
          refine (Hun.out _ hok6).mono ?_
          rintro e7 w7 ⟨rfl, hb7⟩
          clear c0 c1 c2 c3 c4 c5 c6 y0 y1 y2 y3 y4 y5 y6 z0 z1 z2 z3 z4 z5 z6
          have hb7' : Below w4.heap.size w4 w7 := hb6'.trans (hb7.mono hb6'.size)
          go_wp2
          go_roundw
          case rel => exact ⟨j + 1, by omega, by go_num, hb7'⟩
          case measure => simp [intOf]; omega
        · obtain ⟨z, hz, hzy⟩ := inv_stays Hinv.out.ok Hap.out Hym.out hu
          have Hzy := Lib.hid hzy
          rw [show getE x y.path = (z, true) by rw [getE, hz]] at Hget
          clear hz hzy
          by_cases hk : e.kind = 4
          · have hu' : under y.path e.path = false := by
              cases h : under y.path e.path with
              | false => rfl
              | true => exact absurd ⟨hk, h⟩ hu
            rw [hu'] at Hun
            have k4 : ((e.kind : Int) == 4) = true := by simpa using hk
            clear hu hu' hk
            go_wp2_with fail
            refine (Hget.out _ (hokq.alloc _)).mono ?_
            rintro e5 w5 ⟨vz, vw, rfl, g1, g2, hb5⟩
            obtain ⟨za, zc, rfl, _, _, _⟩ := id g1
            obtain ⟨zx, zd, rfl, _, _, _⟩ := id g2
            have HZ1 := Lib.hid g1
            have HZ2 := Lib.hid g2
            have hok5 := (hokq.alloc _).below (Nat.le_refl _) hb5
            have HY5 := Lib.hid (entB (e := y) rfl hb5)
            have HB5 := Lib.hid ((HBq.out.past _).thru hb5)
            have hb5' : Below w4.heap.size w4 w5 := (hbq.alloc hbq.size _).trans (hb5.mono (by have := hbq.size; simp; omega))
            clear y0 y1 y2 y3 y4 y5 y6 hb5 g1 g2
            have hb6' : Below w4.heap.size w4 (w5.alloc (.cells #[.int .i64 z.kind, S z.path, .slice za z.attrs.length zc, S z.target, .int .i64 z.size, S z.digest, .slice zx z.exts.length zd] 26)) := hb5'.alloc hb5'.size _
            have hok6 := hok5.alloc (.cells #[.int .i64 z.kind, S z.path, .slice za z.attrs.length zc, S z.target, .int .i64 z.size, S z.digest, .slice zx z.exts.length zd] 26)
            have HB6 := Lib.hid (HB5.out.past (.cells #[.int .i64 z.kind, S z.path, .slice za z.attrs.length zc, S z.target, .int .i64 z.size, S z.digest, .slice zx z.exts.length zd] 26))
            have HY6 := Lib.hid (HY5.out.past (.cells #[.int .i64 z.kind, S z.path, .slice za z.attrs.length zc, S z.target, .int .i64 z.size, S z.digest, .slice zx z.exts.length zd] 26))
            have HZ6 := Lib.hid (entB (n := w5.heap.size) (e := z) (va := .slice za z.attrs.length zc) (vx := .slice zx z.exts.length zd) (t := 26) rfl (Below.refl _ _))
            obtain ⟨c0, c1, c2, c3, c4, c5, c6⟩ := HB6.out
            obtain ⟨y0, y1, y2, y3, y4, y5, y6⟩ := HY6.out
            obtain ⟨z0, z1, z2, z3, z4, z5, z6⟩ := HZ6.out
            go_wp2_with fail
            refine (Hun.out _ hok6).mono ?_
            rintro e7 w7 ⟨rfl, hb7⟩
            clear c0 c1 c2 c3 c4 c5 c6 y0 y1 y2 y3 y4 y5 y6 z0 z1 z2 z3 z4 z5 z6
            have hb7' : Below w4.heap.size w4 w7 := hb6'.trans (hb7.mono hb6'.size)
            have hok7 := hok6.below (Nat.le_refl _) hb7
            have HB7 := Lib.hid (HB6.out.thru hb7)
            have HY7 := Lib.hid (HY6.out.thru hb7)
            have HZ7 := Lib.hid (HZ6.out.thru hb7)
            clear hb7
            obtain ⟨c0, c1, c2, c3, c4, c5, c6⟩ := HB7.out
            obtain ⟨y0, y1, y2, y3, y4, y5, y6⟩ := HY7.out
            obtain ⟨z0, z1, z2, z3, z4, z5, z6⟩ := HZ7.out
            by_cases hp : y.path = e.path
            · have p1 : (y.path != e.path) = false := by simpa using hp
              have p2 : (y.path == e.path) = true := by simpa using hp
              clear hp
              go_wp2
              go_roundw
              case rel => exact ⟨j + 1, by omega, by go_num, hb7'⟩
              case measure => simp [intOf]; omega
            · have p1 : (y.path != e.path) = true := by simpa using hp
              have p2 : (y.path == e.path) = false := by simpa using hp
              have Heq := ref36_Equal J3 y z _ _ _ _ HG1.out HG2.out HZ1.out HZ2.out _ hok7
              rw [decide_eq_true (Hzy.out hp).symm] at Heq
              have HEq := Lib.hid Heq
              clear hp Heq
              go_wp2_with fail
              refine HEq.out.mono ?_
              rintro e8 w8 ⟨rfl, hb8⟩
              have hb8' : Below w4.heap.size w4 w8 := Below.trans hb7' (hb8.mono (Below.size hb7'))
              go_wp2
              go_roundw
              case rel => exact ⟨j + 1, by omega, by go_num, hb8'⟩
              case measure => simp [intOf]; omega
          · have k4 : ((e.kind : Int) == 4) = false := by simpa using hk
            clear hu hk
            go_wp2_with fail
            refine (Hget.out _ (hokq.alloc _)).mono ?_
            rintro e5 w5 ⟨vz, vw, rfl, g1, g2, hb5⟩
            obtain ⟨za, zc, rfl, _, _, _⟩ := id g1
            obtain ⟨zx, zd, rfl, _, _, _⟩ := id g2
            have HZ1 := Lib.hid g1
            have HZ2 := Lib.hid g2
            have hok5 := (hokq.alloc _).below (Nat.le_refl _) hb5
            have HY5 := Lib.hid (entB (e := y) rfl hb5)
            have HB5 := Lib.hid ((HBq.out.past _).thru hb5)
            have hb5' : Below w4.heap.size w4 w5 := (hbq.alloc hbq.size _).trans (hb5.mono (by have := hbq.size; simp; omega))
            clear y0 y1 y2 y3 y4 y5 y6 hb5 g1 g2
            have hb6' : Below w4.heap.size w4 (w5.alloc (.cells #[.int .i64 z.kind, S z.path, .slice za z.attrs.length zc, S z.target, .int .i64 z.size, S z.digest, .slice zx z.exts.length zd] 26)) := hb5'.alloc hb5'.size _
            have hok6 := hok5.alloc (.cells #[.int .i64 z.kind, S z.path, .slice za z.attrs.length zc, S z.target, .int .i64 z.size, S z.digest, .slice zx z.exts.length zd] 26)
            have HB6 := Lib.hid (HB5.out.past (.cells #[.int .i64 z.kind, S z.path, .slice za z.attrs.length zc, S z.target, .int .i64 z.size, S z.digest, .slice zx z.exts.length zd] 26))
            have HY6 := Lib.hid (HY5.out.past (.cells #[.int .i64 z.kind, S z.path, .slice za z.attrs.length zc, S z.target, .int .i64 z.size, S z.digest, .slice zx z.exts.length zd] 26))
            have HZ6 := Lib.hid (entB (n := w5.heap.size) (e := z) (va := .slice za z.attrs.length zc) (vx := .slice zx z.exts.length zd) (t := 26) rfl (Below.refl _ _))
            obtain ⟨c0, c1, c2, c3, c4, c5, c6⟩ := HB6.out
            obtain ⟨y0, y1, y2, y3, y4, y5, y6⟩ := HY6.out
            obtain ⟨z0, z1, z2, z3, z4, z5, z6⟩ := HZ6.out
            by_cases hp : y.path = e.path
            · have p1 : (y.path != e.path) = false := by simpa using hp
              have p2 : (y.path == e.path) = true := by simpa using hp
              clear hp
              go_wp2
              go_roundw
              case rel => exact ⟨j + 1, by omega, by go_num, hb6'⟩
              case measure => simp [intOf]; omega
            · have p1 : (y.path != e.path) = true := by simpa using hp
              have p2 : (y.path == e.path) = false := by simpa using hp
              have Heq := ref36_Equal J3 y z _ _ _ _ HG1.out HG2.out HZ1.out HZ2.out _ hok6
              rw [decide_eq_true (Hzy.out hp).symm] at Heq
              have HEq := Lib.hid Heq
              clear hp Heq
              go_wp2_with fail
              refine HEq.out.mono ?_
              rintro e8 w8 ⟨rfl, hb8⟩
              have hb8' : Below w4.heap.size w4 w8 := Below.trans hb6' (hb8.mono (Below.size hb6'))
              go_wp2
              go_roundw
              case rel => exact ⟨j + 1, by omega, by go_num, hb8'⟩
              case measure => simp [intOf]; omega
      case neg =>
        have hbq' := hb4'.trans (hbq.mono hb4'.size)
        have Hge2 := Lib.hid (fun w hw => dt_Get J3 _ x Hr3.out e.path w hw)
        obtain ⟨c0, c1, c2, c3, c4, c5, c6⟩ := HBq.out
        by_cases hk3 : e.kind ≤ 3
        · rw [show getE x e.path = (e, true) by rw [getE, inv_self Hinv.out.ok Hap.out hk3]] at Hge2
          go_wp2_with fail
          refine (Hge2.out _ hokq).mono ?_
          rintro e5 w5 ⟨vz, vw, rfl, g1, g2, hb5⟩
          obtain ⟨za, zc, rfl, _, _, _⟩ := id g1
          obtain ⟨zx, zd, rfl, _, _, _⟩ := id g2
          clear c0 c1 c2 c3 c4 c5 c6
          have hok5 := hokq.below (Nat.le_refl _) hb5
          have hb5' := hbq'.trans (hb5.mono hbq'.size)
          have hb6' : Below w1.heap.size w1 (w5.alloc (.cells #[.int .i64 e.kind, S e.path, .slice za e.attrs.length zc, S e.target, .int .i64 e.size, S e.digest, .slice zx e.exts.length zd] 26)) := hb5'.alloc hb5'.size _
          have hok6 := hok5.alloc (.cells #[.int .i64 e.kind, S e.path, .slice za e.attrs.length zc, S e.target, .int .i64 e.size, S e.digest, .slice zx e.exts.length zd] 26)
          obtain ⟨c0, c1, c2, c3, c4, c5, c6⟩ := (HBq.out.thru hb5).past (.cells #[.int .i64 e.kind, S e.path, .slice za e.attrs.length zc, S e.target, .int .i64 e.size, S e.digest, .slice zx e.exts.length zd] 26)
          obtain ⟨z0, z1, z2, z3, z4, z5, z6⟩ := entB (n := w5.heap.size) (e := e) (va := .slice za e.attrs.length zc) (vx := .slice zx e.exts.length zd) (t := 26) rfl (Below.refl _ _)
          have Heq := ref36_Equal J3 e e _ _ _ _ g1 g2 (Ha.out.mono Hk3.out) (Hx.out.mono Hk3.out) _ hok6
          rw [decide_eq_true rfl] at Heq
          have HEq := Lib.hid Heq
          clear Heq g1 g2 hb5
          go_wp2_with fail
          refine HEq.out.mono ?_
          rintro e8 w8 ⟨rfl, hb8⟩
          have hb8' := hb6'.trans (hb8.mono hb6'.size)
          have hok8 := hok6.below (Nat.le_refl _) hb8
          go_wp2
          go_roundw
          case rel => exact ⟨k + 1, x, J3, by omega, by go_num, ⟨Hr3.out, Ht3.out, Hall.out, Hgr.out, by omega, fun b c h => Hk3.out b c (Hinv.out.keep b c h), hok8⟩, hb8'⟩
          case measure => simp [intOf]; omega
        · obtain ⟨g, gb, hg⟩ : ∃ g gb, getE x e.path = (g, gb) := ⟨_, _, rfl⟩
          rw [hg] at Hge2
          clear hg
          go_wp2_with fail
          refine (Hge2.out _ hokq).mono ?_
          rintro e5 w5 ⟨vz, vw, rfl, g1, g2, hb5⟩
          obtain ⟨za, zc, rfl, _, _, _⟩ := id g1
          obtain ⟨zx, zd, rfl, _, _, _⟩ := id g2
          clear c0 c1 c2 c3 c4 c5 c6
          have hok5 := hokq.below (Nat.le_refl _) hb5
          have hb5' := hbq'.trans (hb5.mono hbq'.size)
          have hb6' : Below w1.heap.size w1 (w5.alloc (.cells #[.int .i64 g.kind, S g.path, .slice za g.attrs.length zc, S g.target, .int .i64 g.size, S g.digest, .slice zx g.exts.length zd] 26)) := hb5'.alloc hb5'.size _
          have hok6 := hok5.alloc (.cells #[.int .i64 g.kind, S g.path, .slice za g.attrs.length zc, S g.target, .int .i64 g.size, S g.digest, .slice zx g.exts.length zd] 26)
          obtain ⟨c0, c1, c2, c3, c4, c5, c6⟩ := (HBq.out.thru hb5).past (.cells #[.int .i64 g.kind, S g.path, .slice za g.attrs.length zc, S g.target, .int .i64 g.size, S g.digest, .slice zx g.exts.length zd] 26)
          clear g1 g2 hb5
          go_wp2
          go_roundw
          case rel => exact ⟨k + 1, x, J3, by omega, by go_num, ⟨Hr3.out, Ht3.out, Hall.out, Hgr.out, by omega, fun b c h => Hk3.out b c (Hinv.out.keep b c h), hok6⟩, hb6'⟩
          case measure => simp [intOf]; omega
end Go.Proofs.YtcbmdghnlbieeaaGreatDoor
