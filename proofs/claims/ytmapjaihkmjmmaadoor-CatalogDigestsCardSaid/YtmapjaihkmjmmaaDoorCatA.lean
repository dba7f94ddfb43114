/-
  Walks of layer 57's reference: digits, valid, Key.
-/
import Derived.Test.YtmapjaihkmjmmaaDoorRows
import Derived.Test.YtmapjaihkmjmmaaDoorBase
import Derived.Test.YtmapjaihkmjmmaaDoorPlainA
namespace Go.Proofs.YtmapjaihkmjmmaaDoor
open Go.RowKit

set_option maxRecDepth 100000 in
set_option maxHeartbeats 400000 in
theorem ref57_digits (n m : Nat) (hn : n ≤ 9223372036854775807) (hm : m ≤ 100) (w : World) :
    Calls Tryd.prog 24 #[.int .i64 n, .int .i64 m] w fun e w' => e = .returned (S (refDigits m n [])) ∧ Below w.heap.size w w' := by
  have kc := conv_byte (P := Tryd.prog) 45 9 5 Tryd.underlying45 Tryd.underlying5 Tryd.underlying9
  go_enter Tryd.func24, Tryd.ntmps24
  go_wp2
  go_loopw [0, 5, 6] (fun s0 s5 s6 wr => ∃ k q : Nat, ∃ s : Bytes, k ≤ m ∧ s0 = .int .i64 q ∧ q ≤ 9223372036854775807 ∧ s5 = S s ∧ s.length ≤ k ∧ s6 = .int .i64 k ∧ refDigits (m - k) q s = refDigits m n [] ∧ Below w.heap.size w wr) (fun _ _ i _ => m - (intOf i).toNat)
  case atStart => exact ⟨0, n, [], by omega, rfl, hn, rfl, Nat.le_refl _, rfl, rfl, Below.refl _ _⟩
  case round =>
    obtain ⟨k, q, s, hk, rfl, hq, rfl, hs, rfl, hr, hb⟩ := hrel
    have Hr := Lib.hid hr; clear hr
    by_cases hlt : k < m
    · go_wp2
      go_roundw
      case rel =>
        refine ⟨k + 1, q / 10, (48 + UInt8.ofNat (q % 10)) :: s, by omega, by go_num, by omega, rfl, by simp; omega, by go_num, ?_, (hb.alloc hb.size _)⟩
        rw [← Hr.out, show m - k = (m - (k + 1)) + 1 by omega]; rfl
      case measure => simp [intOf]; omega
    · go_wp2
      go_ret
      refine ⟨ret_s ?_, hb⟩
      rw [← Hr.out, show m - k = 0 by omega]; rfl

theorem ref57_digits' (n m : Int) (w : World) (h0 : 0 ≤ n) (hn : n ≤ 9223372036854775807) (m0 : 0 ≤ m) (hm : m ≤ 100) :
    Calls Tryd.prog 24 #[.int .i64 n, .int .i64 m] w fun e w' => e = .returned (S (refDigits m.toNat n.toNat [])) ∧ Below w.heap.size w w' := by
  obtain ⟨n, rfl⟩ := Int.eq_ofNat_of_zero_le h0
  obtain ⟨m, rfl⟩ := Int.eq_ofNat_of_zero_le m0
  exact ref57_digits n m (by omega) (by omega) w

structure Rec where
  a : Nat
  s : Int
  d : Bytes
deriving DecidableEq

def Rec.Wf (r : Rec) : Prop := r.a < 4294967296 ∧ -9223372036854775808 ≤ r.s ∧ r.s ≤ 9223372036854775807 ∧ r.d.length ≤ 9223372036854775807
abbrev Rec.cs (r : Rec) : List Value := [.int .u32 r.a, .int .i64 r.s, S r.d]
abbrev Rec.v (r : Rec) : Value := .agg #[.int .u32 r.a, .int .i64 r.s, S r.d]
def tRec : Ty Rec := Ty.flat 3 Rec.cs (fun _ => rfl) (fun _ u h => by simp at h; rcases h with rfl | rfl | rfl <;> rfl)

/-- Element i of a slice of records, in the walk's spelling. -/
theorem recAt {I : IH} {v : Value} {l : List Rec} {w : World} (h : RdS tRec I v l) (hw : Ok I w) (i : Nat) (hi : i < l.length) : ∃ r b off cap, l[i] = r ∧ v = .slice (some ⟨b, off, none⟩) l.length cap ∧
    w.cell? ⟨b, off + i * 3, none⟩ = some (.int .u32 r.a) ∧ w.cell? ⟨b, off + i * 3 + 1, none⟩ = some (.int .i64 r.s) ∧ w.cell? ⟨b, off + i * 3 + 2, none⟩ = some (S r.d) := by
  obtain ⟨b, off, cap, cs, hv, hcs, hc⟩ := h.at_ hw hi
  have hcs' : cs = l[i].cs := hcs
  subst hcs'
  exact ⟨_, b, off, cap, rfl, hv, hc 0 _ rfl, hc 1 _ rfl, hc 2 _ rfl⟩

/-- Why a record is invalid. -/
def recValid (r : Rec) : Int := if r.s < 1 ∨ 255 < r.s then 2 else if r.d.length ≠ 32 then 1 else 0

set_option maxRecDepth 100000 in
set_option maxHeartbeats 400000 in
theorem ref57_valid (r : Rec) (hr : r.Wf) (w : World) :
    Calls Tryd.prog 23 #[r.v] w fun e w' => e = .returned (.int .i64 (recValid r)) ∧ Below w.heap.size w w' := by
  obtain ⟨a, s, d⟩ := r
  obtain ⟨h1, h2, h3, h4⟩ := hr
  go_enter Tryd.func23, Tryd.ntmps23
  go_wp2
  all_goals go_ret
  all_goals refine ⟨ret_i ?_, (Below.refl _ _).alloc (Nat.le_refl _) _⟩
  all_goals simp_all [recValid]
  all_goals omega

set_option maxRecDepth 100000 in
set_option maxHeartbeats 400000 in
theorem cat_valid (r : Rec) (hr : r.Wf) (w : World) :
    Calls Tryd.prog 21 #[r.v] w fun e w' => e = .returned (.int .i64 (recValid r)) ∧ Below w.heap.size w w' := by
  obtain ⟨a, s, d⟩ := r
  obtain ⟨h1, h2, h3, h4⟩ := hr
  go_enter Tryd.func21, Tryd.ntmps21
  go_wp2
  all_goals go_ret
  all_goals refine ⟨ret_i ?_, (Below.refl _ _).alloc (Nat.le_refl _) _⟩
  all_goals simp_all [recValid]
  all_goals omega

def recKey (r : Rec) : Bytes := if recValid r = 0 then refDigits 10 r.a [] ++ 45 :: refDigits 3 r.s.toNat [] else []

set_option maxRecDepth 100000 in
set_option maxHeartbeats 400000 in
theorem ref57_Key (r : Rec) (hr : r.Wf) (w : World) :
    Calls Tryd.prog 11 #[r.v] w fun e w' => e = .returned (S (recKey r)) ∧ Below w.heap.size w w' := by
  have hv := fun w => ref57_valid r hr w
  by_cases h0 : recValid r = 0
  · obtain ⟨a, s, d⟩ := r
    obtain ⟨h1, h2, h3, h4⟩ := hr
    have hs : 1 ≤ s ∧ s ≤ 255 := by simp only [recValid] at h0; split at h0 <;> simp_all <;> omega
    obtain ⟨hs1, hs2⟩ := hs
    obtain ⟨q, rfl⟩ := Int.eq_ofNat_of_zero_le (a := s) (by omega)
    have hk : recKey ⟨a, q, d⟩ = refDigits 10 a [] ++ 45 :: refDigits 3 q [] := by simp [recKey, h0]
    have hl1 : (refDigits 10 a []).length ≤ 10 := by simp [refDigits]
    have hl2 : (refDigits 3 q []).length ≤ 3 := by simp [refDigits]
    rw [h0] at hv
    have hv' := Lib.hid hv; clear hv
    have hk' := Lib.hid hk; clear hk h0
    go_enter Tryd.func11, Tryd.ntmps11
    go_wp2_with (go_at_call 23; refine (hv'.out _).mono ?_; rintro e w' ⟨rfl, hb⟩)
    have hc0 : w'.cell? ⟨w.heap.size, 0, none⟩ = some (.int .u32 a) := by rw [hb.cell (by simp)]; simp
    have hc1 : w'.cell? ⟨w.heap.size, 1, none⟩ = some (.int .i64 q) := by rw [hb.cell (by simp)]; simp
    have hg0 := cell_regrown hc0
    have hg1 := cell_regrown hc1
    have hw : IntKind.i64.wrap (a : Int) = a := IntWalk.i64_in _ (by omega)
    refine wp_region_quiet_below (by kernel_rfl) (by kernel_rfl) ?_
    repeat (go_big_quiet_step ((with_reducible exact Calls.regrown_of (ref57_digits' _ _ _ (by omega) (by omega) (by omega) (by omega)))))
    refine wpQuiet_nil ?_
    intro w2 hwq
    have hbq : Below (w').heap.size (w') w2 := by
      obtain ⟨pq, rfl⟩ := hwq
      exact below_regrown _ _ _
    clear hwq
    go_wp2
    go_ret
    refine ⟨ret_s ?_, ?_⟩
    · rw [hk'.out]
    · exact ((Below.refl _ _).alloc (Nat.le_refl _) _).trans ((hb.mono (by simp)).trans (hbq.mono (by have := hb.size; simp at this; omega)))
  · obtain ⟨a, s, d⟩ := r
    obtain ⟨h1, h2, h3, h4⟩ := hr
    generalize hq : recValid ⟨a, s, d⟩ = q at *
    have hq' := Lib.hid hq; clear hq
    have hv' := Lib.hid hv; clear hv
    have hn : (q != 0) = true := by simpa using h0
    go_enter Tryd.func11, Tryd.ntmps11
    go_wp2_with (go_at_call 23; refine (hv'.out _).mono ?_; rintro e w' ⟨rfl, hb⟩)
    go_ret
    exact ⟨ret_s (by simp [recKey, hq'.out, h0]), ((Below.refl _ _).alloc (Nat.le_refl _) _).trans (hb.mono (by simp))⟩
/-- The cells of a boxed record behind a call. -/
theorem recBox {W w1 : World} {n : Nat} {r : Rec} {T : TypeId} (hn : n = W.heap.size) (hb : Below (W.alloc (.cells #[.int .u32 r.a, .int .i64 r.s, S r.d] T)).heap.size (W.alloc (.cells #[.int .u32 r.a, .int .i64 r.s, S r.d] T)) w1) :
    w1.cell? ⟨n, 0, none⟩ = some (.int .u32 r.a) ∧ w1.cell? ⟨n, 1, none⟩ = some (.int .i64 r.s) ∧ w1.cell? ⟨n, 2, none⟩ = some (S r.d) := by
  subst hn
  refine ⟨?_, ?_, ?_⟩ <;> (rw [hb.cell (by simp)]; simp)
end Go.Proofs.YtmapjaihkmjmmaaDoor
