/-
  Contracts of Go's library in this work's own words: decimal numerals, Repeat.
-/
import Derived.Test.YtmapjaihkmjmmaaDoorRows
import Derived.Test.YtmapjaihkmjmmaaDoorBase
import Derived.Test.YtmapjaihkmjmmaaDoorShelf
import Derived.Lib.AppendIntMem
namespace Go.Proofs.YtmapjaihkmjmmaaDoor
open Go.RowKit Go.Lib Go.Sort

/-- The library's table of powers of ten lies in the immutable part. -/
def Glob (I : IH) : Prop := I 0 = some (Lib.pow10Tab.map fun z => Value.int .u64 z).toArray
theorem Glob.tab {I : IH} {w : World} (h : Glob I) (hw : Ok I w) : Lib.TabIs Tryd.prog w "internal/strconv.uint64pow10" .u64 Lib.pow10Tab := by
  obtain ⟨e, f, hh⟩ := hw _ _ h
  unfold Lib.TabIs World.var?
  have hg : Tryd.prog.globalNamed "internal/strconv.uint64pow10" = some 0 := by kernel_rfl
  simp [hg, hh]

set_option maxHeartbeats 3000000 in
set_option maxRecDepth 100000 in
theorem lib_FormatUint_in (I : IH) (hI : Glob I) (u : Nat) (hu64 : u < 18446744073709551616) (w : World) (hw : Ok I w) :
    Calls Tryd.prog 47 #[.int .u64 u, .int .i64 10] w fun e w' => e = .returned (S (decDigits u)) ∧ Below w.heap.size w w' := by
  have htab := hI.tab hw
  by_cases hs : u < 100
  · go_enter Tryd.func47, Tryd.ntmps47
    go_wp2_with (go_at_call 61; refine (Tryd.internal_strconv_small u hs _).mono ?_; rintro e w' ⟨rfl, rfl⟩)
    go_ret
    exact ⟨rfl, Below.refl _ _⟩
  · have hu1 : 1 ≤ u := by omega
    have hnd20 : Lib.nDigits u ≤ 20 := by have := Lib.numDigits_eq u hu1 hu64; split at this <;> omega
    have hb3 : Lib.nDigits u ≤ 24 := by omega
    have hal : Tryd.prog.arrayLen 95 = 24 := by simp [Program.arrayLen, Tryd.underlying95]
    have hsl1 : ∀ W, (Instr.sliceAt 95 (.pointer (some ⟨w.heap.size, 0, none⟩)) none (some (.int .i64 (Lib.nDigits u : Int))) none).run Tryd.prog W = .ok (.slice (some ⟨w.heap.size, 0, none⟩) (Lib.nDigits u) 24) W := fun W => by
      rw [run_sliceAt_array_h W 95 ⟨w.heap.size, 0, none⟩ (by simp [Program.arrayLen, Program.elem, Tryd.underlying95]) .i64 (Lib.nDigits u : Int) (by omega) (by rw [hal]; omega)]
      go_simp
    have hH0 := Lib.holds_zero0 w 95 (Lib.nDigits u) (by omega)
    have hfmt := Tryd.internal_strconv_formatBase10 w.heap.size 0 24 u (Array.replicate (Lib.nDigits u) 0) (w.alloc (.cells Lib.zeros24 95)) hH0 (by rw [Array.size_replicate]; exact Lib.lt_pow_nDigits u) hu64 (by rw [Array.size_replicate]; omega)
    rw [Array.size_replicate] at hfmt
    have HH0 := Lib.hid hH0
    have Htab := Lib.hid htab
    clear hH0 hal htab
    go_enter Tryd.func47, Tryd.ntmps47
    go_wp2_with (go_at_call 62; refine (Tryd.internal_strconv_numDigits u hu1 hu64 _ (Lib.tabIs_alloc Htab.out _)).mono ?_; rintro e w' ⟨rfl, rfl⟩)
    refine hfmt.mono ?_
    rintro e w' ⟨rfl, k, v', dk, rfl, hF⟩
    have hcv : (convert 45 9 (.slice (some ⟨w.heap.size, 0, none⟩) (Lib.nDigits u) 24)).run Tryd.prog ((putRow (fun (b : UInt8) => Value.int .u8 (b.toNat : Int)) (w.alloc (.cells Lib.zeros24 95)) w.heap.size 0 dk).drewN k) = .ok (.string ⟨(Lib.decDigits u).toArray⟩) ((putRow (fun (b : UInt8) => Value.int .u8 (b.toNat : Int)) (w.alloc (.cells Lib.zeros24 95)) w.heap.size 0 dk).drewN k) := by
      have h := run_convert_bytes_back (P := Tryd.prog) ((putRow (fun (b : UInt8) => Value.int .u8 (b.toNat : Int)) (w.alloc (.cells Lib.zeros24 95)) w.heap.size 0 dk).drewN k) 45 9 5 ⟨w.heap.size, 0, none⟩ 24 (Lib.decDigits u) Tryd.underlying45 Tryd.underlying5 Tryd.underlying9 (fun j hj => by
        rw [Lib.row_is_numeral hF j hj, Lib.add_plain, World.cell?_drewN]
        exact cell?_putRow (fun (b : UInt8) => Value.int .u8 (b.toNat : Int)) _ w.heap.size 0 _ dk HH0.out (by rw [hF.size, Array.size_replicate]) j (by rw [hF.size]; rw [Lib.decDigits_length] at hj; exact hj))
      rw [Lib.decDigits_length] at h
      exact h
    go_wp2
    go_ret
    obtain ⟨os, eo⟩ := Lib.fin_at w (.cells Lib.zeros24 95) dk k 0
    refine ⟨rfl, ?_⟩
    rw [eo]
    exact Lib.below_grow _ _ (Nat.le_refl _) _ _

set_option maxRecDepth 100000 in
theorem lib_FormatUint (I : IH) (hI : Glob I) (u : Int) (w : World) (hw : Ok I w) (h0 : 0 ≤ u) (hu : u < 18446744073709551616) :
    Calls Tryd.prog 34 #[.int .u64 u, .int .i64 10] w fun e w' => e = .returned (S (decDigits u.toNat)) ∧ Below w.heap.size w w' := by
  obtain ⟨u, rfl⟩ := Int.eq_ofNat_of_zero_le h0
  go_enter Tryd.func34, Tryd.ntmps34
  go_wp2_with (go_at_call 47; refine (lib_FormatUint_in I hI u (by omega) _ hw).mono ?_; rintro e w' ⟨rfl, hb⟩)
  go_ret
  exact ⟨rfl, hb⟩

theorem lib_Itoa (I : IH) (hI : Glob I) (n : Int) (w : World) (hw : Ok I w) (h0 : -9223372036854775808 ≤ n) (h1 : n ≤ 9223372036854775807) :
    Calls Tryd.prog 54 #[.int .i64 n] w fun e w' => e = .returned (S (itoa n)) ∧ Below w.heap.size w w' :=
  (Tryd.strconv_Itoa n h0 h1 w (hI.tab hw)).mono fun e w' ⟨he, k, os, hq⟩ => ⟨he, by rw [hq]; exact Lib.below_grow _ _ (Nat.le_refl _) _ _⟩

theorem lib_Repeat (l : Bytes) (c : Int) (w : World) (h0 : 0 ≤ c) (hc : c ≤ 9223372036854775807) (hl : l.length * c.toNat ≤ 140737488355328) :
    Calls Tryd.prog 35 #[S l, .int .i64 c] w fun e w' => e = .returned (S (repeatL l c.toNat)) ∧ Below w.heap.size w w' := by
  obtain ⟨c, rfl⟩ := Int.eq_ofNat_of_zero_le h0
  have h := Tryd.strings_Repeat ⟨l.toArray⟩ c w (by omega) (by rw [ByteArray.size_mk', List.size_toArray]; simpa using hl)
  simpa using h
end Go.Proofs.YtmapjaihkmjmmaaDoor
