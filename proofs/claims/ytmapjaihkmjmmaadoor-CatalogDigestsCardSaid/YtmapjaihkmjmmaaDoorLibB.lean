/-
  sort.Search with a closure that leaves old memory alone.
-/
import Derived.Test.YtmapjaihkmjmmaaDoorRows
import Derived.Test.YtmapjaihkmjmmaaDoorBase
import Derived.Shelf.SlSorted.Search
namespace Go.Proofs.YtmapjaihkmjmmaaDoor
open Go.RowKit

/-- sort.Search's own loop. -/
def bs (p : Nat → Bool) (lo hi : Nat) : Nat :=
  if h : lo < hi then (if p ((lo + hi) / 2) then bs p lo ((lo + hi) / 2) else bs p ((lo + hi) / 2 + 1) hi) else lo
termination_by hi - lo
decreasing_by all_goals omega

theorem bs_le (p : Nat → Bool) (lo hi : Nat) (h : lo ≤ hi) : lo ≤ bs p lo hi ∧ bs p lo hi ≤ hi := by
  induction lo, hi using bs.induct p with
  | case1 lo hi hlt hp ih => rw [bs, dif_pos hlt, if_pos hp]; have := ih (by omega); omega
  | case2 lo hi hlt hp ih => rw [bs, dif_pos hlt, if_neg hp]; have := ih (by omega); omega
  | case3 lo hi hlt => rw [bs, dif_neg hlt]; omega

set_option maxRecDepth 100000 in
set_option maxHeartbeats 400000 in
theorem lib_Search (g : Nat) (cb : Array Value) (n : Int) (p : Nat → Bool) (w : World) (eg : ∀ args w, (callFunc g args).run Tryd.prog w = .ok (.enter g args) w) (h0 : 0 ≤ n) (hn : n ≤ 4611686018427387904)
    (hf : ∀ (i : Nat) (W : World), (i : Int) < n → Below w.heap.size w W → Calls Tryd.prog g (#[.int .i64 i] ++ cb) W fun e w' => e = .returned (.bool (p i)) ∧ Below W.heap.size W w') :
    Calls Tryd.prog 36 #[.int .i64 n, .func (.func g) #[] cb] w fun e w' => e = .returned (.int .i64 (bs p 0 n.toNat)) ∧ Below w.heap.size w w' := by
  obtain ⟨n, rfl⟩ := Int.eq_ofNat_of_zero_le h0
  have Hf := Lib.hid hf; clear hf
  go_enter Tryd.func36, Tryd.ntmps36
  go_wp2
  go_loopw [5, 6] (fun s5 s6 wr => ∃ lo hi : Nat, s5 = .int .i64 lo ∧ s6 = .int .i64 hi ∧ lo ≤ hi ∧ hi ≤ n ∧ bs p lo hi = bs p 0 n ∧ Below w.heap.size w wr) (fun a b _ => (intOf b).toNat - (intOf a).toNat)
  case atStart => exact ⟨0, n, rfl, rfl, Nat.zero_le _, Nat.le_refl _, rfl, Below.refl _ _⟩
  case round =>
    obtain ⟨lo, hi, rfl, rfl, hlh, hin, hr, hb⟩ := hrel
    have Hr := Lib.hid hr; clear hr
    by_cases hlt : lo < hi
    · have hc := Hf.out ((lo + hi) / 2) wr (by omega) hb
      rw [show (((lo + hi) / 2 : Nat) : Int) = ((lo : Int) + (hi : Int)) / 2 by omega] at hc
      cases hp : p ((lo + hi) / 2) <;> rw [hp] at hc
      · have Hp := Lib.hid hp; clear hp
        go_wp2_with fail
        refine hc.mono ?_
        rintro e w1 ⟨rfl, hb1⟩
        go_wp2
        go_roundw
        case rel => exact ⟨(lo + hi) / 2 + 1, hi, by go_num, rfl, by omega, hin, (by rw [← Hr.out]; conv => rhs; rw [bs]; rw [dif_pos hlt, Hp.out]; simp), hb.trans (hb1.mono hb.size)⟩
        case measure => simp [intOf]; omega
      · have Hp := Lib.hid hp; clear hp
        go_wp2_with fail
        refine hc.mono ?_
        rintro e w1 ⟨rfl, hb1⟩
        go_wp2
        go_roundw
        case rel => exact ⟨lo, (lo + hi) / 2, rfl, by go_num, by omega, by omega, (by rw [← Hr.out]; conv => rhs; rw [bs]; rw [dif_pos hlt, Hp.out]; simp), hb.trans (hb1.mono hb.size)⟩
        case measure => simp [intOf]; omega
    · go_wp2
      go_ret
      refine ⟨ret_i ?_, hb⟩
      rw [Int.toNat_natCast, ← Hr.out, bs, dif_neg hlt]
end Go.Proofs.YtmapjaihkmjmmaaDoor
