/-
  Walks of layer 4 (blake2s): Sum of one string.
-/
import Derived.Test.YtmapjaihkmjmmaaDoorBlkC
import Derived.Test.YtmapjaihkmjmmaaDoorLibA
import Derived.Laws.MakeOwn
import Derived.Test.YtmapjaihkmjmmaaDoorPlainA
namespace Go.Proofs.YtmapjaihkmjmmaaDoor
open Go.RowKit

def sumStart : List Int := [bits .xor .u32 1779033703 16842784, 3144134277, 1013904242, 2773480762, 1359893119, 2600822924, 528734635, 1541459225]
/-- The words behind i pieces. -/
def hAt (s : Bytes) : Nat → List Int
  | 0 => sumStart
  | i + 1 => compressP (hAt s i) ((s.drop (64 * i)).take 64) ((64 * i + 64 : Nat) : Int) false
theorem hAt_length (s : Bytes) : ∀ i, (hAt s i).length = 8
  | 0 => rfl
  | _ + 1 => compressP_length ..
/-- The pieces ahead of the last. -/
def lastAt (s : Bytes) : Nat := (s.length - 1) / 64
def sumWords (s : Bytes) : List Int := compressP (hAt s (lastAt s)) (s.drop (64 * lastAt s) ++ List.replicate (64 - (s.length - 64 * lastAt s)) 0) (s.length : Int) true

set_option maxRecDepth 100000 in
theorem lib_Join1 (b off cap : Nat) (s : Bytes) (w : World) (hc : w.cell? ⟨b, off, none⟩ = some (S s)) :
    Calls Tryd.prog 42 #[.slice (some ⟨b, off, none⟩) 1 cap, S []] w fun e w' => e = .returned (S s) ∧ w' = w := by
  go_enter Tryd.func42, Tryd.ntmps42
  go_wp2
  go_ret
  exact ⟨rfl, rfl⟩

/-- Bytes, as the walk has them. -/
def tB : Ty Int := Ty.flat 1 (fun x => [.int .u8 x]) (fun _ => rfl) (fun _ u h => by simp at h; subst h; rfl)
def wordBytes (x : Int) : List Int := [x % 256, x / 256 % 256, x / 65536 % 256, x / 16777216 % 256]
def outTo (G : List Int) (k : Nat) : List Int := (G.take k).flatMap wordBytes
theorem outTo_succ (G : List Int) (k : Nat) (hk : k < G.length) : outTo G (k + 1) = outTo G k ++ wordBytes (G.getD k 0) := by
  rw [outTo, outTo, List.take_succ_eq_append_getElem hk, List.flatMap_append]
  simp [List.getD, List.getElem?_eq_getElem hk]
theorem outTo_length (G : List Int) : ∀ k, (outTo G k).length ≤ 4 * k := by
  intro k
  have : ∀ L : List Int, (L.flatMap wordBytes).length = 4 * L.length := by
    intro L
    induction L with
    | nil => rfl
    | cons x L ih => rw [List.flatMap_cons, List.length_append, ih]; simp [wordBytes]; omega
  rw [outTo, this]; simp; omega

theorem wordBytes_lies (I : IH) (x : Int) : LiesL tB I [.int .u8 (x % 256), .int .u8 (x / 256 % 256), .int .u8 (x / 65536 % 256), .int .u8 (x / 16777216 % 256)] (wordBytes x) :=
  (((LiesL.one (T := tB) (I := I) (x := x % 256) (cs := [.int .u8 (x % 256)]) rfl).append (LiesL.one (T := tB) (x := x / 256 % 256) (cs := [.int .u8 (x / 256 % 256)]) rfl)).append (LiesL.one (T := tB) (x := x / 65536 % 256) (cs := [.int .u8 (x / 65536 % 256)]) rfl)).append (LiesL.one (T := tB) (x := x / 16777216 % 256) (cs := [.int .u8 (x / 16777216 % 256)]) rfl)

theorem tB_cells {I : IH} {xs : List Value} {l : List Int} (h : LiesL tB I xs l) (j : Nat) (hj : j < l.length) : xs[j]? = some (.int .u8 l[j]) := by
  obtain ⟨cs, h1, h2⟩ := h.2 j hj
  have e : cs = [.int .u8 l[j]] := h1
  subst e
  have := h2 0 _ rfl
  rw [show j * tB.size + 0 = j by show j * 1 + 0 = j; omega] at this
  exact this
theorem push_all_from : ∀ (l : List Int) (a : ByteArray), List.foldl (fun r n => r.push (UInt8.ofNat n.toNat)) a l = ⟨a.data ++ (l.map fun x => UInt8.ofNat x.toNat).toArray⟩
  | [], a => by simp
  | x :: l, a => by
    rw [List.foldl_cons, push_all_from l]
    apply ByteArray.ext
    simp [ByteArray.push]
theorem push_all (l : List Int) : List.foldl (fun r n => r.push (UInt8.ofNat n.toNat)) ByteArray.empty l = ⟨(l.map fun x => UInt8.ofNat x.toNat).toArray⟩ := by
  rw [push_all_from]
  apply ByteArray.ext
  show (#[] : Array UInt8) ++ _ = _
  simp
theorem conv_own {P : Program} {I : IH} {E src dst e : TypeId} {v : Value} {l : List Int} {B : Nat} (hs : P.underlying src = some (.slice e)) (he : P.underlying e = some (.int .u8)) (hd : P.underlying dst = some .string) (W : World) (h : OwnS tB E I W B v l) (hl : 0 < l.length) :
    (convert src dst v).run P W = .ok (S (l.map fun x => UInt8.ofNat x.toNat)) W := by
  obtain ⟨xs, ⟨_, hcase⟩, hL⟩ := h
  rcases hcase with ⟨_, h0⟩ | ⟨g, cap, cur, rfl, _, hg, _, _, _, ht⟩
  · omega
  · rw [run_convert_bytes_string _ _ _ e _ _ _ hs he hd, run_bytesToString (ns := l)]
    · rw [push_all]
    · have hc := run_loadCells_list (P := P) W ⟨g, 0, none⟩ (l.map fun x => Value.int .u8 x) (fun j u hu => by
        have hj : j < l.length := by simpa using (List.getElem?_eq_some_iff.1 hu).1
        rw [Addr.add_lit, Nat.zero_add, cell_of_row _ _ _ _ _ _ hg]
        have h1 := tB_cells hL j hj
        rw [← ht, List.getElem?_take] at h1
        split at h1
        · rw [← Array.getElem?_toList, h1]; simpa [hj] using hu
        · cases h1)
      simpa using hc

/-- The digest of a string. -/
def sumP (s : Bytes) : Bytes := (outTo (sumWords s) 8).map fun x => UInt8.ofNat x.toNat

theorem u8_info : (Tryd.prog.info? 5).map (fun i => (i.zero, i.size, i.bytes)) = some (some (.int .u8 0), 1, 1) := by kernel_rfl
theorem blk_make : ∃ ZZ : Array Value, ZZ.size = 32 ∧ ∀ W, (Instr.makeSlice 45 (.int .i64 0) (.int .i64 32)).run Tryd.prog W = .ok (.slice (some ⟨W.heap.size, 0, none⟩) 0 32) (W.alloc (.cells ZZ 5)) := by
  obtain ⟨i, h1, h2, h3, h4⟩ := info_parts u8_info
  refine ⟨madeCells (Value.int .u8 0).cells (32 * i.size), by rw [size_madeCells, h3], fun W => ?_⟩
  exact run_make (P := Tryd.prog) W 45 5 i _ Tryd.underlying45 h1 h2 .i64 .i64 0 32 (by omega) (by omega) (by rw [h4]; omega) (by omega)

theorem u8_elem : ElemOk Tryd.prog 45 5 tB 1 := ElemOk.of Tryd.underlying45 u8_info rfl (by decide) rfl

set_option maxRecDepth 100000 in
set_option maxHeartbeats 2000000 in
theorem blk_Sum1 (b off cap : Nat) (s : Bytes) (hs : s.length ≤ 140737488355328) (w : World) (hc : w.cell? ⟨b, off, none⟩ = some (S s)) :
    Calls Tryd.prog 30 #[.slice (some ⟨b, off, none⟩) 1 cap] w fun e w' => e = .returned (S (sumP s)) ∧ Below w.heap.size w w' := by
  go_enter Tryd.func30, Tryd.ntmps30
  go_wp2_with fail
  refine (lib_Join1 b off cap s w hc).mono ?_
  rintro e w0 ⟨rfl, hww⟩
  rw [hww]
  clear hww w0
  go_wp2_with fail
  refine (blk_initial _).mono ?_
  rintro e w1 ⟨rfl, hb1⟩
  rw [show row blkIV = #[.int .u32 1779033703, .int .u32 3144134277, .int .u32 1013904242, .int .u32 2773480762, .int .u32 1359893119, .int .u32 2600822924, .int .u32 528734635, .int .u32 1541459225] from rfl]
  go_wp2_with fail
  obtain ⟨B, hBe⟩ : ∃ B, w1.heap.size = B := ⟨_, rfl⟩
  have hBw : w.heap.size ≤ B := by rw [← hBe]; exact hb1.size
  have Hst := Lib.hid (show (w1.alloc (.cells (row sumStart) 71)).heap[B]? = some (.cells (row (hAt s 0)) 71 (0, 0)) by rw [← hBe]; exact heap_alloc_new _ _)
  have Hbl := Lib.hid (show Below w.heap.size w (w1.alloc (.cells (row sumStart) 71)) from hb1.alloc hb1.size _)
  rw [hBe]
  clear hb1 hBe
  obtain ⟨L, hL⟩ : ∃ L, lastAt s = L := ⟨_, rfl⟩
  have hL' : L = (s.length - 1) / 64 := hL.symm
  have HL := Lib.hid hL; clear hL
  go_loopw [5] (fun s5 wr => ∃ i : Nat, i ≤ L ∧ s5 = .int .i64 (64 * (i : Int)) ∧ Below w.heap.size w wr ∧ B < wr.heap.size ∧ wr.heap[B]? = some (.cells (row (hAt s i)) 71 (0, 0))) (fun i _ => s.length - (intOf i).toNat)
  case atStart => exact ⟨0, Nat.zero_le _, rfl, Hbl.out, (by have := Hst.out; exact (Array.getElem?_eq_some_iff.1 this).1), Hst.out⟩
  case round =>
    clear Hst Hbl
    obtain ⟨i, hi, rfl, hb, hBs, hB⟩ := hrel
    by_cases hlt : i < L
    · have hlen : 64 * i + 64 < s.length := by omega
      obtain ⟨e0, e1, e2, e3, e4, e5, e6, e7, he⟩ := list8 (hAt_length s i)
      have He := Lib.hid he
      rw [he] at hB
      clear he
      have d0 : wr.cell? ⟨B, 0, none⟩ = some (.int .u32 e0) := (cell_of_row wr B 0 _ _ _ hB).trans rfl
      have d1 : wr.cell? ⟨B, 1, none⟩ = some (.int .u32 e1) := (cell_of_row wr B 1 _ _ _ hB).trans rfl
      have d2 : wr.cell? ⟨B, 2, none⟩ = some (.int .u32 e2) := (cell_of_row wr B 2 _ _ _ hB).trans rfl
      have d3 : wr.cell? ⟨B, 3, none⟩ = some (.int .u32 e3) := (cell_of_row wr B 3 _ _ _ hB).trans rfl
      have d4 : wr.cell? ⟨B, 4, none⟩ = some (.int .u32 e4) := (cell_of_row wr B 4 _ _ _ hB).trans rfl
      have d5 : wr.cell? ⟨B, 5, none⟩ = some (.int .u32 e5) := (cell_of_row wr B 5 _ _ _ hB).trans rfl
      have d6 : wr.cell? ⟨B, 6, none⟩ = some (.int .u32 e6) := (cell_of_row wr B 6 _ _ _ hB).trans rfl
      have d7 : wr.cell? ⟨B, 7, none⟩ = some (.int .u32 e7) := (cell_of_row wr B 7 _ _ _ hB).trans rfl
      have z0 := frozen_of_row wr B 0 _ _ hB
      have z1 := frozen_of_row wr B 1 _ _ hB
      have z2 := frozen_of_row wr B 2 _ _ hB
      have z3 := frozen_of_row wr B 3 _ _ hB
      have z4 := frozen_of_row wr B 4 _ _ hB
      have z5 := frozen_of_row wr B 5 _ _ hB
      have z6 := frozen_of_row wr B 6 _ _ hB
      have z7 := frozen_of_row wr B 7 _ _ hB
      have HB := Lib.hid hB; clear hB
      go_wp2_with fail
      have hw1 : IntKind.i64.wrap (64 * (i : Int) + 64) = 64 * (i : Int) + 64 := IntWalk.i64_in _ (by omega)
      have hw2 : IntKind.u64.wrap (64 * (i : Int) + 64) = 64 * (i : Int) + 64 := IntWalk.u64_in _ (by omega)
      have hw3 : (0 : Int) ≤ 64 * (i : Int) + 64 := by omega
      have hw4 : 64 * (i : Int) + 64 ≤ (s.length : Int) := by omega
      have hw5 : (0 : Int) ≤ 64 * (i : Int) := by omega
      have hw6 : 64 * (i : Int) ≤ 64 * (i : Int) + 64 := by omega
      have hw7 : (64 * (i : Int) + 64).toNat = 64 * i + 64 := by omega
      have hw8 : (64 * (i : Int)).toNat = 64 * i := by omega
      have hw9 : 64 * i + 64 - 64 * i = 64 := by omega
      have hpl : ((s.drop (64 * i)).take 64).length = 64 := by simp; omega
      obtain ⟨c0, c1, c2, c3, c4, c5, c6, c7, hc⟩ := list8 (compressP_length [e0, e1, e2, e3, e4, e5, e6, e7] ((s.drop (64 * i)).take 64) (64 * (i : Int) + 64) false)
      have Hc := Lib.hid hc
      clear hc
      go_region_law (go_simp; go_at_call 44; refine (blk_Compress [e0, e1, e2, e3, e4, e5, e6, e7] rfl ((s.drop (64 * i)).take 64) hpl (64 * (i : Int) + 64) false _).mono ?_; rintro e w' ⟨rfl, hb'⟩; rw [Hc.out, show row [c0, c1, c2, c3, c4, c5, c6, c7] = #[.int .u32 c0, .int .u32 c1, .int .u32 c2, .int .u32 c3, .int .u32 c4, .int .u32 c5, .int .u32 c6, .int .u32 c7] from rfl]; have y0 : w'.cell? ⟨B, 0, none⟩ = some (.int .u32 e0) := (hb'.cell hBs).trans d0; have y1 : w'.cell? ⟨B, 1, none⟩ = some (.int .u32 e1) := (hb'.cell hBs).trans d1; have y2 : w'.cell? ⟨B, 2, none⟩ = some (.int .u32 e2) := (hb'.cell hBs).trans d2; have y3 : w'.cell? ⟨B, 3, none⟩ = some (.int .u32 e3) := (hb'.cell hBs).trans d3; have y4 : w'.cell? ⟨B, 4, none⟩ = some (.int .u32 e4) := (hb'.cell hBs).trans d4; have y5 : w'.cell? ⟨B, 5, none⟩ = some (.int .u32 e5) := (hb'.cell hBs).trans d5; have y6 : w'.cell? ⟨B, 6, none⟩ = some (.int .u32 e6) := (hb'.cell hBs).trans d6; have y7 : w'.cell? ⟨B, 7, none⟩ = some (.int .u32 e7) := (hb'.cell hBs).trans d7; have g0 : w'.frozen? ⟨B, 0, none⟩ = false := (hb'.frozen hBs).trans z0; have g1 : w'.frozen? ⟨B, 1, none⟩ = false := (hb'.frozen hBs).trans z1; have g2 : w'.frozen? ⟨B, 2, none⟩ = false := (hb'.frozen hBs).trans z2; have g3 : w'.frozen? ⟨B, 3, none⟩ = false := (hb'.frozen hBs).trans z3; have g4 : w'.frozen? ⟨B, 4, none⟩ = false := (hb'.frozen hBs).trans z4; have g5 : w'.frozen? ⟨B, 5, none⟩ = false := (hb'.frozen hBs).trans z5; have g6 : w'.frozen? ⟨B, 6, none⟩ = false := (hb'.frozen hBs).trans z6; have g7 : w'.frozen? ⟨B, 7, none⟩ = false := (hb'.frozen hBs).trans z7; have Hb' := Lib.hid hb'; clear hb')
      have hv0 := (Hb'.out.block B hBs).trans HB.out
      have hv := heap_setCell (i := 7) c7 (heap_setCell (i := 6) c6 (heap_setCell (i := 5) c5 (heap_setCell (i := 4) c4 (heap_setCell (i := 3) c3 (heap_setCell (i := 2) c2 (heap_setCell (i := 1) c1 (heap_setCell (i := 0) c0 (hv0))))))))
      have hbw : Below w.heap.size w w' := hb.drew.trans (Hb'.out.mono hb.size)
      have hbw' := Below.setCell (Below.setCell (Below.setCell (Below.setCell (Below.setCell (Below.setCell (Below.setCell (Below.setCell (hbw) (p := ⟨B, 0, none⟩) hBw (.int .u32 c0)) (p := ⟨B, 1, none⟩) hBw (.int .u32 c1)) (p := ⟨B, 2, none⟩) hBw (.int .u32 c2)) (p := ⟨B, 3, none⟩) hBw (.int .u32 c3)) (p := ⟨B, 4, none⟩) hBw (.int .u32 c4)) (p := ⟨B, 5, none⟩) hBw (.int .u32 c5)) (p := ⟨B, 6, none⟩) hBw (.int .u32 c6)) (p := ⟨B, 7, none⟩) hBw (.int .u32 c7)
      have hsz' := Hb'.out.size
      go_wp2
      go_roundw
      case rel => exact ⟨i + 1, by omega, by go_num, hbw', (by simp [World.setCell]; simp at hsz'; omega), (by rw [hAt, He.out, show ((64 * i + 64 : Nat) : Int) = 64 * (i : Int) + 64 by omega, Hc.out]; exact hv)⟩
      case measure => simp [intOf]; omega
    · have hie : i = L := by omega
      have hle : s.length ≤ 64 * i + 64 := by omega
      have hge : 64 * i ≤ s.length := by omega
      have hw1 : IntKind.i64.wrap (64 - ((s.length : Int) - 64 * (i : Int))) = 64 - ((s.length : Int) - 64 * (i : Int)) := IntWalk.i64_in _ (by omega)
      have hw2 : IntKind.i64.wrap ((s.length : Int) - 64 * (i : Int)) = (s.length : Int) - 64 * (i : Int) := IntWalk.i64_in _ (by omega)
      have hw3 : 64 * (i : Int) ≤ (s.length : Int) := by omega
      have hw4 : (0 : Int) ≤ 64 * (i : Int) := by omega
      have hw5 : (64 * (i : Int)).toNat = 64 * i := by omega
      obtain ⟨c, hc64⟩ : ∃ c : Nat, (64 : Int) - ((s.length : Int) - 64 * (i : Int)) = c := ⟨64 - (s.length - 64 * i), by omega⟩
      have hcn : c = 64 - (s.length - 64 * i) := by omega
      have HB := Lib.hid hB; clear hB
      have Hie := Lib.hid (show lastAt s = i by rw [HL.out, hie])
      have Hcn := Lib.hid hcn
      have hc1 : c ≤ 64 := by omega
      have hrl : (Lib.repeatL [0] (c : Int).toNat).length ≤ 100 := by rw [Lib.repeatL_length]; simp; omega
      have hrl2 : (Lib.repeatL [0] c).length ≤ 100 := by rw [Lib.repeatL_length]; simp; omega
      clear hie hL' hcn hlt hi
      go_wp2_with fail
      refine wp_region_quiet_below (by kernel_rfl) (by kernel_rfl) ?_
      repeat (go_big_quiet_step ((exact Calls.regrown_of (lib_Repeat [0] c _ (by omega) (by omega) (by simp; omega)))))
      refine wpQuiet_nil ?_
      intro w2 hwq
      have hb2 : Below (wr).heap.size (wr) w2 := by
        obtain ⟨pq, rfl⟩ := hwq
        exact below_regrown _ _ _
      clear hwq
      obtain ⟨PB, hPB⟩ : ∃ PB, List.take (s.length - 64 * i) (List.drop (64 * i) s) ++ Lib.repeatL [0] c = PB := ⟨_, rfl⟩
      rw [hPB]
      have HPB := Lib.hid (show PB = s.drop (64 * i) ++ List.replicate (64 - (s.length - 64 * i)) 0 by rw [← hPB, repeatL_one, List.take_of_length_le (by simp), Hcn.out])
      have hPl : PB.length = 64 := by rw [HPB.out]; simp; omega
      clear hPB hrl hrl2
      have hl8 := hAt_length s i
      have Hsum := Lib.hid (show sumWords s = compressP (hAt s i) PB (s.length : Int) true by rw [sumWords, Hie.out, HPB.out])
      have hB2 := (hb2.block B hBs).trans HB.out
      have hsz2 : B < w2.heap.size := by have := hb2.size; omega
      have hbw2 : Below w.heap.size w w2 := hb.trans (hb2.mono hb.size)
      generalize hAt s i = F at hB2 hl8 Hsum
      have hi8 : (Tryd.prog.info? 71).map (·.size) = some (row F).size := by rw [row_size, hl8]; kernel_rfl
      have hu64 : IntKind.u64.wrap (s.length : Int) = (s.length : Int) := IntWalk.u64_in _ (by omega)
      clear hb2 HB
      go_wp2_with (refine wpList_load_row rfl 71 _ rfl B rfl 71 (row F) (0, 0) _ hB2 Tryd.underlying71 rfl hi8 ?_)
      refine (blk_Compress F hl8 PB hPl (s.length : Int) true _).mono ?_
      rintro e w3 ⟨rfl, hb3⟩
      rw [← Hsum.out]
      have hl8' : (sumWords s).length = 8 := compressP_length ..
      obtain ⟨G, hG⟩ : ∃ G, sumWords s = G := ⟨_, rfl⟩
      have HG := Lib.hid hG
      rw [hG] at hl8' ⊢
      clear hG
      have hB3 := (hb3.block B hsz2).trans hB2
      have hsz3 : B < w3.heap.size := by have := hb3.size; omega
      have hbw3 : Below w.heap.size w w3 := hbw2.trans (hb3.mono hbw2.size)
      have hi8' : (Tryd.prog.info? 71).map (·.size) = some (row G).size := by rw [row_size, hl8']; kernel_rfl
      have hz8 : (row F).size = (row G).size := by rw [row_size, row_size, hl8, hl8']
      have ho8 : (row G).all (·.oneCell') = true := by simp [row, Value.oneCell']
      clear hb3 Hsum
      go_upto_region 10 with (refine wpList_store_row rfl 71 _ _ rfl B (row G) rfl rfl 71 (row F) hB3 hi8' hz8 ho8 ?_)
      have hB4 : (w3.setRow B (row G)).heap[B]? = some (.cells (row G) 71 (0, 0)) := setRow_heap _ _ _ _ _ _ hB3
      have hbw4 : Below w.heap.size w (w3.setRow B (row G)) := below_setRow hbw3 hBw _
      have hsz4 : B < (w3.setRow B (row G)).heap.size := by simpa using hsz3
      generalize w3.setRow B (row G) = w4 at hB4 hbw4 hsz4
      clear hB3 hbw3 hsz3
      obtain ⟨ZZ, hZZ, hmk⟩ := blk_make
      have hB5 : (w4.alloc (.cells ZZ 5)).heap[B]? = some (.cells (row G) 71 (0, 0)) := (Below.heap_alloc _ _ _ hsz4).trans hB4
      go_wp2_with (refine wpList_load_row rfl 71 _ rfl B rfl 71 (row G) (0, 0) _ hB5 Tryd.underlying71 rfl hi8' ?_)
      have hB0 : w.heap.size ≤ w4.heap.size := hbw4.size
      have Hst := Lib.hid (show OwnS tB 5 (fun _ => none) (w4.alloc (.cells ZZ 5)) w4.heap.size (.slice (some ⟨w4.heap.size, 0, none⟩) 0 32) [] from ⟨[], World.ownsRow_made w4 ZZ 32 (Nat.le_refl _) (by decide) (by rw [hZZ]; rfl), LiesL.nil _ _⟩)
      have Hbl := Lib.hid (hbw4.alloc hB0 (.cells ZZ 5))
      obtain ⟨B0, hB0e⟩ : ∃ B0, w4.heap.size = B0 := ⟨_, rfl⟩
      have hsz5 : B0 ≤ (w4.alloc (.cells ZZ 5)).heap.size := by simp; omega
      rw [hB0e] at hB0 Hst ⊢
      clear hB4 hB5 hbw4 hsz4 hmk
      go_loopw [7, 58] (fun s7 s58 wr => ∃ k : Nat, k ≤ 8 ∧ s58 = .int .i64 k ∧ OwnS tB 5 (fun _ => none) wr B0 s7 (outTo G k) ∧ Below w.heap.size w wr ∧ B0 ≤ wr.heap.size) (fun _ k _ => 8 - (intOf k).toNat)
      case atStart => exact ⟨0, Nat.zero_le _, rfl, Hst.out, Hbl.out, hsz5⟩
      case round =>
        clear Hst Hbl hsz5
        obtain ⟨k, hk, rfl, hown, hbk, hszk⟩ := hrel
        by_cases hltk : k < 8
        · have hix := run_index_one (P := Tryd.prog) Tryd.underlying71 Tryd.underlying23 rfl (by kernel_rfl) k hltk (row_at (l := G) (i := k) (by omega))
          have Hsc := Lib.hid (outTo_succ G k (by omega))
          have hol := outTo_length G k
          generalize G.getD k 0 = x at hix Hsc
          have hwl : (wordBytes x).length = 4 := rfl
          have hly := wordBytes_lies (fun _ => none) x
          go_wp2_with (at_builtin; refine wpList_appendL (w0 := wr) u8_elem rfl _ _ rfl _ _ _ rfl hown (wordBytes x) [.int .u8 (x % 256), .int .u8 (x / 256 % 256), .int .u8 (x / 65536 % 256), .int .u8 (x / 16777216 % 256)] _ rfl hly (by rw [hwl]; omega) (by rw [hwl]; omega) (by rw [hwl]; omega) hszk ?_)
          intro v5 w5 hown5 hg5
          have hb5 := Below.own hbk hg5 hown hB0 hszk
          have hsz5 := hg5.size
          go_wp2
          go_roundw
          case rel => exact ⟨k + 1, by omega, by go_num, by rw [Hsc.out]; exact hown5, hb5, by omega⟩
          case measure => simp [intOf]; omega
        · have hke : k = 8 := by omega
          have Hret := Lib.hid (show (outTo G k).map (fun x => UInt8.ofNat x.toNat) = sumP s by rw [sumP, HG.out, hke])
          have hpos : 0 < (outTo G k).length := by rw [hke]; match G, hl8' with | _ :: _, _ => simp [outTo, wordBytes]
          have hcv := conv_own (P := Tryd.prog) Tryd.underlying45 Tryd.underlying5 Tryd.underlying9 _ hown hpos
          rw [Hret.out] at hcv
          clear hown hpos hke
          go_wp2
          go_ret
          exact ⟨rfl, hbk⟩
end Go.Proofs.YtmapjaihkmjmmaaDoor
