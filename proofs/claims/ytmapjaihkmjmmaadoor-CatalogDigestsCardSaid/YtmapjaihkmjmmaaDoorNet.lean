/-
  Walks of layer 2 (netstring): String, Strings.
-/
import Derived.Test.YtmapjaihkmjmmaaDoorCatC
import Derived.Test.YtmapjaihkmjmmaaDoorTail
namespace Go.Proofs.YtmapjaihkmjmmaaDoor
open Go.RowKit

/-- The netstring of s. -/
def netP (s : Bytes) : Bytes := Lib.itoa s.length ++ [58] ++ s ++ [44]
def netsP : List Bytes → Bytes
  | [] => []
  | s :: l => netP s ++ netsP l
theorem netsP_append (l m : List Bytes) : netsP (l ++ m) = netsP l ++ netsP m := by
  induction l with
  | nil => rfl
  | cons s l ih => rw [List.cons_append, netsP, netsP, ih, List.append_assoc]
theorem itoa_len (n : Nat) (h : n ≤ 140737488355328) : (Lib.itoa (n : Int)).length ≤ 16 := by
  have : Lib.itoa (n : Int) = Lib.decDigits n := by simp [Lib.itoa]
  rw [this, Lib.decDigits_length]
  exact nDigits_le n 16 (by omega) (by omega)

theorem builder_below {T e : TypeId} {B b : Nat} {bs : List Value} {w w' : World} (h : Lib.IsBuilder T e B b bs w) (hb : Below w.heap.size w w') : Lib.IsBuilder T e B b bs w' := by
  have key : ∀ p, Lib.BuilderAt T e B b p bs w → Lib.BuilderAt T e B b p bs w' := fun p h => by
    have hlt := h.lt
    obtain ⟨hB, v, hv, hown, hne⟩ := h
    refine ⟨hB, v, (hb.block b hlt).trans hv, hown.kept (row := none) ⟨hb.os, hb.tape, hb.output, hb.size, fun k hk _ => hb.block k hk⟩ ?_, hne⟩
    cases v.ownBlock <;> simp
  rcases h with h | h
  · exact .inl (key _ h)
  · exact .inr (key _ h)

set_option maxRecDepth 100000 in
set_option maxHeartbeats 400000 in
theorem net_String (I : IH) (hI : Glob I) (s : Bytes) (hs : s.length ≤ 140737488355200) (w : World) (hw : Ok I w) :
    Calls Tryd.prog 41 #[S s] w fun e w' => e = .returned (S (netP s)) ∧ Below w.heap.size w w' := by
  have hil := itoa_len s.length (by omega)
  go_enter Tryd.func41, Tryd.ntmps41
  go_wp2_with fail
  refine (lib_Itoa I hI _ _ hw (by omega) (by omega)).mono ?_
  rintro e w1 ⟨rfl, hb1⟩
  go_wp2
  go_ret
  exact ⟨ret_s (by simp [netP]), hb1⟩

/-- Element i of a slice of strings, in the walk's spelling. -/
theorem strAt {I : IH} {v : Value} {l : List Bytes} {w : World} (h : RdS tStr I v l) (hw : Ok I w) (i : Nat) (hi : i < l.length) : ∃ s b off cap, l[i] = s ∧ v = .slice (some ⟨b, off, none⟩) l.length cap ∧
    w.cell? ⟨b, off + i, none⟩ = some (S s) := by
  obtain ⟨b, off, cap, cs, hv, hcs, hc⟩ := h.at_ hw hi
  have hcs' : cs = [S l[i]] := hcs
  subst hcs'
  have := hc 0 _ rfl
  exact ⟨_, b, off, cap, rfl, hv, by simpa [tStr, Ty.flat] using this⟩

set_option maxRecDepth 100000 in
set_option maxHeartbeats 800000 in
theorem net_Strings (I : IH) (hI : Glob I) (v : Value) (l : List Bytes) (hv : RdS tStr I v l) (hs : (netsP l).length ≤ 140737488355200) (w : World) (hw : Ok I w) :
    Calls Tryd.prog 29 #[v] w fun e w' => e = .returned (S (netsP l)) ∧ Below w.heap.size w w' := by
  have hlen := hv.len_le
  obtain ⟨ao, cap, rfl, hcap, hcm, _⟩ := id hv
  have Hv := Lib.hid hv; clear hv
  have hfr : Lib.IsBuilder 56 5 w.heap.size w.heap.size (Lib.byteCells (netsP (l.take 0))) (w.alloc (.cells #[.pointer none, .slice none 0 0] 56)) := Lib.fresh_isBuilder _ _ w
  have Hfr := Lib.hid hfr; clear hfr
  go_enter Tryd.func29, Tryd.ntmps29
  go_wp2_with fail
  go_loopw [8] (fun s8 wr => ∃ k : Nat, k ≤ l.length ∧ s8 = .int .i64 k ∧ Lib.IsBuilder 56 5 w.heap.size w.heap.size (Lib.byteCells (netsP (l.take k))) wr ∧ Below w.heap.size w wr ∧ w.heap.size < wr.heap.size) (fun i _ => l.length - (intOf i).toNat)
  case atStart => exact ⟨0, Nat.zero_le _, rfl, Hfr.out, (Below.refl _ _).alloc (Nat.le_refl _) _, by simp⟩
  case round =>
    obtain ⟨k, hk, rfl, hbd, hb, hsz⟩ := hrel
    have Hbd := Lib.hid hbd; clear hbd
    have hwr : Ok I wr := hw.below (Nat.le_refl _) hb
    by_cases hlt : k < l.length
    · obtain ⟨s, b, off, cap', hls, hvv, hc⟩ := strAt Hv.out hwr k hlt
      cases hvv
      have Htk := Lib.hid (show netsP (l.take (k + 1)) = netsP (l.take k) ++ netP s by rw [List.take_succ_eq_append_getElem hlt, netsP_append, hls]; simp [netsP])
      have Hall := Lib.hid (show netsP l = netsP (l.take (k + 1)) ++ netsP (l.drop (k + 1)) by rw [← netsP_append, List.take_append_drop])
      have hbig : (netsP (l.take k)).length + (netP s).length ≤ 140737488355200 := by
        rw [Hall.out, Htk.out] at hs; simp at hs; omega
      have hsl : s.length ≤ 140737488355200 := by
        have : s.length ≤ (netP s).length := by simp [netP]; omega
        omega
      clear hls
      go_wp2_with fail
      refine (net_String I hI s hsl _ hwr).mono ?_
      rintro e w1 ⟨rfl, hb1⟩
      have hbd1 := builder_below Hbd.out hb1
      have hsz1 := hb1.size
      go_wp2_with fail
      refine (Tryd.Builder_WriteString w.heap.size w.heap.size _ _ _ hbd1 (by rw [ByteArray.size_mk', List.size_toArray]; simp [Lib.byteCells]; omega) (by omega)).mono ?_
      rintro e w2 ⟨rfl, hbd2, hb2⟩
      have hsz2 := hbd2.lt
      have Hbd2 : Hid (Lib.IsBuilder 56 5 w.heap.size w.heap.size (Lib.byteCells (netsP (l.take (k + 1)))) w2) := Lib.hid (.inr (by
        have := hbd2
        rw [Lib.strCells_toArray, Lib.byteCells, Lib.byteCells, ← List.map_append, ← Htk.out] at this
        exact this))
      clear hbd1 hbd2
      go_wp2
      go_roundw
      case rel => exact ⟨k + 1, by omega, by go_num, Hbd2.out, (hb.trans (hb1.mono (Nat.le_of_lt hsz))).trans hb2, by omega⟩
      case measure => simp [intOf]; omega
    · have hke : l.take k = l := List.take_of_length_le (by omega)
      rw [hke] at Hbd
      clear hke
      go_wp2_with fail
      refine (Tryd.Builder_String_any w.heap.size w.heap.size _ _ Hbd.out (Nat.le_of_lt hsz)).mono ?_
      rintro e w1 ⟨rfl, hb1⟩
      go_wp2
      go_ret
      exact ⟨rfl, hb.trans hb1⟩
end Go.Proofs.YtmapjaihkmjmmaaDoor
