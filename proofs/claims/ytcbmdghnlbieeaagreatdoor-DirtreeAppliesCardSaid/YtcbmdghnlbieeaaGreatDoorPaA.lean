/-
  Walks of the reference's layer 31: Elements.
-/
import Derived.Test.YtcbmdghnlbieeaaGreatDoorRows
import Derived.Test.YtcbmdghnlbieeaaGreatDoorOwn
import Derived.Test.YtcbmdghnlbieeaaGreatDoorTail
import Derived.Test.YtcbmdghnlbieeaaGreatDoorRet
import Derived.Test.YtcbmdghnlbieeaaGreatDoorEnt
import Derived.Test.YtcbmdghnlbieeaaGreatDoorPtl
namespace Go.Proofs.YtcbmdghnlbieeaaGreatDoor
open Go.RowKit

/-- A byte of a string, as the walk reads it. -/
theorem run_at {P : Program} {t : TypeId} (h : P.underlying t = some .string) (s : Bytes) (i : Int) (j : Nat) (hi : i = (j : Int)) (hj : j < s.length) (W : World) : (Instr.index t (S s) (.int .i64 i)).run P W = .ok (.int .u8 ((s.getD j 0).toNat : Nat)) W := by
  subst hi
  rw [S, run_index_string W t _ .i64 _ h]
  have hsz : (⟨s.toArray⟩ : ByteArray).size = s.length := by simp [ByteArray.size]
  rw [dif_pos ⟨by omega, by rw [hsz]; omega⟩]
  have e : (⟨s.toArray⟩ : ByteArray)[((j : Nat) : Int).toNat]'(by rw [hsz]; simpa using hj) = s.getD j 0 := by
    simp [List.getD, List.getElem?_eq_getElem hj, ByteArray.getElem_eq_getElem_data]
  rw [e]

/-- Element i of a slice of strings, in the walk's spelling. -/
theorem strAt {I : IH} {v : Value} {l : List Bytes} {w : World} (h : RdS tStr I v l) (hw : Ok I w) (i : Nat) (hi : i < l.length) : ∃ s b off cap, l[i] = s ∧ v = .slice (some ⟨b, off, none⟩) l.length cap ∧
    w.cell? ⟨b, off + i, none⟩ = some (S s) := by
  obtain ⟨b, off, cap, cs, hv, hcs, hc⟩ := h.at_ hw hi
  have hcs' : cs = [S l[i]] := hcs
  subst hcs'
  have := hc 0 _ rfl
  exact ⟨_, b, off, cap, rfl, hv, by simpa [tStr, Ty.flat] using this⟩

theorem str_info : (Tryz.prog.info? 9).map (fun i => (i.zero, i.size, i.bytes)) = some (some (.string ⟨#[]⟩), 1, 16) := by kernel_rfl
theorem str_elem : ElemOk Tryz.prog 48 9 tStr 16 := ElemOk.of Tryz.underlying48 str_info rfl (by decide) rfl

theorem eq_u8 (c : UInt8) (n : Nat) (hn : n < 256) : (((c.toNat : Nat) : Int) == (n : Int)) = (c == UInt8.ofNat n) := by
  rw [Bool.eq_iff_iff, beq_iff_eq, beq_iff_eq]
  constructor
  · intro h
    have h' : c.toNat = n := by omega
    rw [← h']; simp
  · intro h; rw [h]; simp; omega

set_option maxRecDepth 100000 in
set_option maxHeartbeats 1000000 in
theorem ref31_Elements (I : IH) (s : Bytes) (hs : s.length ≤ 4294967280) (w : World) (hw : Ok I w) :
    Calls Tryz.prog 52 #[S s] w (RetS tStr I w (els s)) := by
  have hfr : ∀ b, w.heap.size ≤ b → I b = none := fun b hb => hw.fresh hb
  have Hfr := Lib.hid hfr
  clear hfr
  have Hst := Lib.hid (show OwnS tStr 9 I (w.alloc (.cells #[] 9)) w.heap.size (.slice (some ⟨w.heap.size, 0, none⟩) 0 0) [] from ⟨[], World.ownsRow_made w #[] 0 (Nat.le_refl _) (Nat.zero_le _) (by simp), LiesL.nil _ _⟩)
  by_cases h0 : s = []
  · have Hs := Lib.hid (show els s = [] by rw [h0]; rfl)
    have f1 : (s == []) = true := by rw [h0]; rfl
    have f2 : s.isEmpty = true := by rw [h0]; rfl
    have f3 : (!s.isEmpty) = false := by rw [h0]; rfl
    clear h0
    go_enter Tryz.func52, Tryz.ntmps52
    go_wp2
    go_ret
    obtain ⟨I', hI1, hI2, hI3, _⟩ := Hst.out.freeze (hw.alloc _) Hfr.out
    rw [Hs.out]
    exact ⟨_, I', rfl, (Below.refl _ _).alloc (Nat.le_refl _) _, hI1, hI2, hI3⟩
  · have Hs := Lib.hid (show els s = elsGo [] s by rw [els, if_neg h0])
    have f1 : (s == []) = false := by simpa using h0
    have f2 : s.isEmpty = false := by cases s <;> simp_all
    have f3 : (!s.isEmpty) = true := by rw [f2]; rfl
    clear h0
    go_enter Tryz.func52, Tryz.ntmps52
    go_wp2_with fail
    go_loopw [3, 4, 5] (fun s3 s4 s5 wr => ∃ (k : Nat) (out : List Bytes) (p : Bytes), k ≤ s.length ∧ s5 = .int .i64 k ∧ s4 = S p ∧ OwnS tStr 9 I wr w.heap.size s3 out ∧ out.length ≤ k ∧ p.length ≤ k ∧ out ++ elsGo p (s.drop k) = elsGo [] s ∧ Below w.heap.size w wr) (fun _ _ i _ => s.length - (intOf i).toNat)
    case atStart => exact ⟨0, [], [], Nat.zero_le _, rfl, rfl, Hst.out, Nat.le_refl _, Nat.le_refl _, rfl, (Below.refl _ _).alloc (Nat.le_refl _) _⟩
    case round =>
      clear Hst
      obtain ⟨k, out, p, hk, rfl, rfl, hown, hol, hpl, hr, hb⟩ := hrel
      have Hr := Lib.hid hr
      have Hown := Lib.hid hown
      have hwr : Ok I wr := hw.below (Nat.le_refl _) hb
      clear hr hown
      by_cases hlt : k < s.length
      · have hx := run_at Tryz.underlying9 s (k : Int) k rfl hlt
        have hd : s.drop k = s.getD k 0 :: s.drop (k + 1) := by rw [List.drop_eq_getElem_cons hlt]; simp [List.getD, hlt]
        have htk : (s.drop k).take 1 = [s.getD k 0] := by rw [hd]; rfl
        have Htk := Lib.hid htk
        have hst : elsGo [] s = out ++ (if s.getD k 0 == 47 then p :: elsGo [] (s.drop (k + 1)) else elsGo (p ++ [s.getD k 0]) (s.drop (k + 1))) := by rw [← Hr.out, hd]; rfl
        have he := eq_u8 (s.getD k 0) 47 (by decide)
        generalize hg : s.getD k 0 = ch at hx hst he Htk
        have Hst := Lib.hid hst
        clear hd htk hst hg
        have hw1 : IntKind.i64.wrap ((k : Int) + 1) = (k : Int) + 1 := IntWalk.i64_in _ (by omega)
        cases hc : (ch == 47)
        · rw [show (UInt8.ofNat 47) = 47 from rfl, hc] at he
          have Hnx := Lib.hid (show out ++ elsGo (p ++ [ch]) (s.drop (k + 1)) = elsGo [] s by rw [Hst.out, hc]; rfl)
          clear hc
          go_wp2
          go_roundw
          case rel => exact ⟨k + 1, out, p ++ [ch], by omega, by go_num, (by first | rfl | (simp [S, ← Htk.out]; done) | (congr; simp [← Htk.out])), Hown.out, by omega, (by simp; omega), Hnx.out, hb⟩
          case measure => simp [intOf]; omega
        · rw [show (UInt8.ofNat 47) = 47 from rfl, hc] at he
          have Hnx := Lib.hid (show (out ++ [p]) ++ elsGo [] (s.drop (k + 1)) = elsGo [] s by rw [Hst.out, hc]; simp)
          clear hc
          go_wp2_with (at_builtin; refine wpList_append1 (w0 := wr) str_elem rfl _ _ rfl _ _ _ rfl Hown.out p [S p] _ rfl rfl (by omega) (by omega) (Below.size hb) ?_)
          intro v9 w9 hown9 hg9
          have hb9 := Below.own hb hg9 Hown.out (Nat.le_refl _) (Below.size hb)
          go_wp2
          go_roundw
          case rel => exact ⟨k + 1, out ++ [p], [], by omega, by go_num, rfl, hown9, (by simp; omega), (by simp), Hnx.out, hb9⟩
          case measure => simp [intOf]; omega
      · have Hend := Lib.hid (show out ++ [p] = elsGo [] s by rw [← Hr.out, List.drop_of_length_le (by omega)]; rfl)
        go_wp2_with (at_builtin; refine wpList_append1 (w0 := wr) str_elem rfl _ _ rfl _ _ _ rfl Hown.out p [S p] _ rfl rfl (by omega) (by omega) (Below.size hb) ?_)
        intro v9 w9 hown9 hg9
        have hb9 := Below.own hb hg9 Hown.out (Nat.le_refl _) (Below.size hb)
        have hok9 : Ok I w9 := Ok.own hwr hg9 Hown.out Hfr.out
        have Hown9 := Lib.hid hown9
        clear hown9 hg9
        go_wp2
        go_ret
        obtain ⟨I', hI1, hI2, hI3, _⟩ := Hown9.out.freeze hok9 Hfr.out
        rw [Hs.out, ← Hend.out]
        exact ⟨_, I', rfl, hb9, hI1, hI2, hI3⟩
end Go.Proofs.YtcbmdghnlbieeaaGreatDoor
