/-
  Walks of layer 4 (blake2s): Sum of one string.
  Walks of the reference's layer 4: mix.
  Walks of the reference's layer 4: the tables, and the plain steps of its Compress.
  Walks of the reference's layer 4: Compress.
  Walks of the reference's layer 4: Digest, Sum of one string.
-/
import Derived.Test.YtcbmdghnlbieeaaGreatDoorZP
import Derived.Test.YtcbmdghnlbieeaaGreatDoorZO
import Derived.Laws.MakeOwn
import Derived.Test.YtcbmdghnlbieeaaGreatDoorZA
namespace Go.Proofs.YtcbmdghnlbieeaaGreatDoor
open Go.RowKit

def sumStart : List Int := [bits .xor .u32 1779033703 16842784, 3144134277, 1013904242, 2773480762, 1359893119, 2600822924, 528734635, 1541459225]
/-- The words behind i pieces. -/
def hAt (s : Bytes) : Nat → List Int
  | 0 => sumStart
  | i + 1 => compressP (hAt s i) ((s.drop (64 * i)).take 64) ((64 * i + 64 : Nat) : Int) false
theorem hAt_length (s : Bytes) : ∀ i, (hAt s i).length = 8
  | 0 => rfl
  | _ + 1 => compressP_length ..
/-- The pieces ahead of the last. -/
def lastAt (s : Bytes) : Nat := (s.length - 1) / 64
def sumWords (s : Bytes) : List Int := compressP (hAt s (lastAt s)) (s.drop (64 * lastAt s) ++ List.replicate (64 - (s.length - 64 * lastAt s)) 0) (s.length : Int) true

/-- Bytes, as the walk has them. -/
def tB : Ty Int := Ty.flat 1 (fun x => [.int .u8 x]) (fun _ => rfl) (fun _ u h => by simp at h; subst h; rfl)
def wordBytes (x : Int) : List Int := [x % 256, x / 256 % 256, x / 65536 % 256, x / 16777216 % 256]
def outTo (G : List Int) (k : Nat) : List Int := (G.take k).flatMap wordBytes
theorem outTo_succ (G : List Int) (k : Nat) (hk : k < G.length) : outTo G (k + 1) = outTo G k ++ wordBytes (G.getD k 0) := by
  rw [outTo, outTo, List.take_succ_eq_append_getElem hk, List.flatMap_append]
  simp [List.getD, List.getElem?_eq_getElem hk]
theorem outTo_length (G : List Int) : ∀ k, (outTo G k).length ≤ 4 * k := by
  intro k
  have : ∀ L : List Int, (L.flatMap wordBytes).length = 4 * L.length := by
    intro L
    induction L with
    | nil => rfl
    | cons x L ih => rw [List.flatMap_cons, List.length_append, ih]; simp [wordBytes]; omega
  rw [outTo, this]; simp; omega

theorem wordBytes_lies (I : IH) (x : Int) : LiesL tB I [.int .u8 (x % 256), .int .u8 (x / 256 % 256), .int .u8 (x / 65536 % 256), .int .u8 (x / 16777216 % 256)] (wordBytes x) :=
  (((LiesL.one (T := tB) (I := I) (x := x % 256) (cs := [.int .u8 (x % 256)]) rfl).append (LiesL.one (T := tB) (x := x / 256 % 256) (cs := [.int .u8 (x / 256 % 256)]) rfl)).append (LiesL.one (T := tB) (x := x / 65536 % 256) (cs := [.int .u8 (x / 65536 % 256)]) rfl)).append (LiesL.one (T := tB) (x := x / 16777216 % 256) (cs := [.int .u8 (x / 16777216 % 256)]) rfl)

theorem tB_cells {I : IH} {xs : List Value} {l : List Int} (h : LiesL tB I xs l) (j : Nat) (hj : j < l.length) : xs[j]? = some (.int .u8 l[j]) := by
  obtain ⟨cs, h1, h2⟩ := h.2 j hj
  have e : cs = [.int .u8 l[j]] := h1
  subst e
  have := h2 0 _ rfl
  rw [show j * tB.size + 0 = j by show j * 1 + 0 = j; omega] at this
  exact this
theorem push_all_from : ∀ (l : List Int) (a : ByteArray), List.foldl (fun r n => r.push (UInt8.ofNat n.toNat)) a l = ⟨a.data ++ (l.map fun x => UInt8.ofNat x.toNat).toArray⟩
  | [], a => by simp
  | x :: l, a => by
    rw [List.foldl_cons, push_all_from l]
    apply ByteArray.ext
    simp [ByteArray.push]
theorem push_all (l : List Int) : List.foldl (fun r n => r.push (UInt8.ofNat n.toNat)) ByteArray.empty l = ⟨(l.map fun x => UInt8.ofNat x.toNat).toArray⟩ := by
  rw [push_all_from]
  apply ByteArray.ext
  show (#[] : Array UInt8) ++ _ = _
  simp
theorem conv_own {P : Program} {I : IH} {E src dst e : TypeId} {v : Value} {l : List Int} {B : Nat} (hs : P.underlying src = some (.slice e)) (he : P.underlying e = some (.int .u8)) (hd : P.underlying dst = some .string) (W : World) (h : OwnS tB E I W B v l) (hl : 0 < l.length) :
    (convert src dst v).run P W = .ok (S (l.map fun x => UInt8.ofNat x.toNat)) W := by
  obtain ⟨xs, ⟨_, hcase⟩, hL⟩ := h
  rcases hcase with ⟨_, h0⟩ | ⟨g, cap, cur, rfl, _, hg, _, _, _, ht⟩
  · omega
  · rw [run_convert_bytes_string _ _ _ e _ _ _ hs he hd, run_bytesToString (ns := l)]
    · rw [push_all]
    · have hc := run_loadCells_list (P := P) W ⟨g, 0, none⟩ (l.map fun x => Value.int .u8 x) (fun j u hu => by
        have hj : j < l.length := by simpa using (List.getElem?_eq_some_iff.1 hu).1
        rw [Addr.add_lit, Nat.zero_add, cell_of_row _ _ _ _ _ _ hg]
        have h1 := tB_cells hL j hj
        rw [← ht, List.getElem?_take] at h1
        split at h1
        · rw [← Array.getElem?_toList, h1]; simpa [hj] using hu
        · cases h1)
      simpa using hc

/-- The digest of a string. -/
def sumP (s : Bytes) : Bytes := (outTo (sumWords s) 8).map fun x => UInt8.ofNat x.toNat

theorem u8_info : (Tryz.prog.info? 5).map (fun i => (i.zero, i.size, i.bytes)) = some (some (.int .u8 0), 1, 1) := by kernel_rfl
theorem blk_make : ∃ ZZ : Array Value, ZZ.size = 32 ∧ ∀ W, (Instr.makeSlice 92 (.int .i64 0) (.int .i64 32)).run Tryz.prog W = .ok (.slice (some ⟨W.heap.size, 0, none⟩) 0 32) (W.alloc (.cells ZZ 5)) := by
  obtain ⟨i, h1, h2, h3, h4⟩ := info_parts u8_info
  refine ⟨madeCells (Value.int .u8 0).cells (32 * i.size), by rw [size_madeCells, h3], fun W => ?_⟩
  exact run_make (P := Tryz.prog) W 92 5 i _ Tryz.underlying92 h1 h2 .i64 .i64 0 32 (by omega) (by omega) (by rw [h4]; omega) (by omega)

theorem u8_elem : ElemOk Tryz.prog 92 5 tB 1 := ElemOk.of Tryz.underlying92 u8_info rfl (by decide) rfl

set_option maxRecDepth 100000 in
set_option maxHeartbeats 2000000 in
theorem blk_SumL (b off cap : Nat) (l : List Bytes) (s : Bytes) (hl : l.flatten = s) (hs : s.length ≤ 140737488355328) (w : World) (hc : ∀ (j : Nat) x, l[j]? = some x → w.cell? ⟨b, off + j, none⟩ = some (S x)) (hcap : l.length ≤ cap) (hbl : b < w.heap.size) (hn : l.length ≤ 1000000) :
    Calls Tryz.prog 60 #[.slice (some ⟨b, off, none⟩) l.length cap] w fun e w' => e = .returned (S (sumP s)) ∧ Below w.heap.size w w' := by
  have Hj := Lib.hid (lib_JoinE b off cap l w hc hcap hbl hn (by rw [hl]; exact hs))
  rw [hl] at Hj
  clear hc hl hcap hn hbl
  go_enter Tryz.func60, Tryz.ntmps60
  go_wp2_with fail
  refine Hj.out.mono ?_
  rintro e w0 ⟨rfl, hb0⟩
  clear Hj
  go_wp2_with fail
  refine (blk_initial _).mono ?_
  rintro e w1 ⟨rfl, hb1a⟩
  have hb1 := hb0.trans (hb1a.mono hb0.size)
  clear hb0 hb1a
  rw [show row blkIV = #[.int .u32 1779033703, .int .u32 3144134277, .int .u32 1013904242, .int .u32 2773480762, .int .u32 1359893119, .int .u32 2600822924, .int .u32 528734635, .int .u32 1541459225] from rfl]
  go_wp2_with fail
  obtain ⟨B, hBe⟩ : ∃ B, w1.heap.size = B := ⟨_, rfl⟩
  have hBw : w.heap.size ≤ B := by rw [← hBe]; exact hb1.size
  have Hst := Lib.hid (show (w1.alloc (.cells (row sumStart) 101)).heap[B]? = some (.cells (row (hAt s 0)) 101 (0, 0)) by rw [← hBe]; exact heap_alloc_new _ _)
  have Hbl := Lib.hid (show Below w.heap.size w (w1.alloc (.cells (row sumStart) 101)) from hb1.alloc hb1.size _)
  rw [hBe]
  clear hb1 hBe
  obtain ⟨L, hL⟩ : ∃ L, lastAt s = L := ⟨_, rfl⟩
  have hL' : L = (s.length - 1) / 64 := hL.symm
  have HL := Lib.hid hL; clear hL
  go_loopw [5] (fun s5 wr => ∃ i : Nat, i ≤ L ∧ s5 = .int .i64 (64 * (i : Int)) ∧ Below w.heap.size w wr ∧ B < wr.heap.size ∧ wr.heap[B]? = some (.cells (row (hAt s i)) 101 (0, 0))) (fun i _ => s.length - (intOf i).toNat)
  case atStart => exact ⟨0, Nat.zero_le _, rfl, Hbl.out, (by have := Hst.out; exact (Array.getElem?_eq_some_iff.1 this).1), Hst.out⟩
  case round =>
    clear Hst Hbl
    obtain ⟨i, hi, rfl, hb, hBs, hB⟩ := hrel
    by_cases hlt : i < L
    · have hlen : 64 * i + 64 < s.length := by omega
      obtain ⟨e0, e1, e2, e3, e4, e5, e6, e7, he⟩ := list8 (hAt_length s i)
      have He := Lib.hid he
      rw [he] at hB
      clear he
      have d0 : wr.cell? ⟨B, 0, none⟩ = some (.int .u32 e0) := (cell_of_row wr B 0 _ _ _ hB).trans rfl
      have d1 : wr.cell? ⟨B, 1, none⟩ = some (.int .u32 e1) := (cell_of_row wr B 1 _ _ _ hB).trans rfl
      have d2 : wr.cell? ⟨B, 2, none⟩ = some (.int .u32 e2) := (cell_of_row wr B 2 _ _ _ hB).trans rfl
      have d3 : wr.cell? ⟨B, 3, none⟩ = some (.int .u32 e3) := (cell_of_row wr B 3 _ _ _ hB).trans rfl
      have d4 : wr.cell? ⟨B, 4, none⟩ = some (.int .u32 e4) := (cell_of_row wr B 4 _ _ _ hB).trans rfl
      have d5 : wr.cell? ⟨B, 5, none⟩ = some (.int .u32 e5) := (cell_of_row wr B 5 _ _ _ hB).trans rfl
      have d6 : wr.cell? ⟨B, 6, none⟩ = some (.int .u32 e6) := (cell_of_row wr B 6 _ _ _ hB).trans rfl
      have d7 : wr.cell? ⟨B, 7, none⟩ = some (.int .u32 e7) := (cell_of_row wr B 7 _ _ _ hB).trans rfl
      have z0 := frozen_of_row wr B 0 _ _ hB
      have z1 := frozen_of_row wr B 1 _ _ hB
      have z2 := frozen_of_row wr B 2 _ _ hB
      have z3 := frozen_of_row wr B 3 _ _ hB
      have z4 := frozen_of_row wr B 4 _ _ hB
      have z5 := frozen_of_row wr B 5 _ _ hB
      have z6 := frozen_of_row wr B 6 _ _ hB
      have z7 := frozen_of_row wr B 7 _ _ hB
      have HB := Lib.hid hB; clear hB
      go_wp2_with fail
      have hw1 : IntKind.i64.wrap (64 * (i : Int) + 64) = 64 * (i : Int) + 64 := IntWalk.i64_in _ (by omega)
      have hw2 : IntKind.u64.wrap (64 * (i : Int) + 64) = 64 * (i : Int) + 64 := IntWalk.u64_in _ (by omega)
      have hw3 : (0 : Int) ≤ 64 * (i : Int) + 64 := by omega
      have hw4 : 64 * (i : Int) + 64 ≤ (s.length : Int) := by omega
      have hw5 : (0 : Int) ≤ 64 * (i : Int) := by omega
      have hw6 : 64 * (i : Int) ≤ 64 * (i : Int) + 64 := by omega
      have hw7 : (64 * (i : Int) + 64).toNat = 64 * i + 64 := by omega
      have hw8 : (64 * (i : Int)).toNat = 64 * i := by omega
      have hw9 : 64 * i + 64 - 64 * i = 64 := by omega
      have hpl : ((s.drop (64 * i)).take 64).length = 64 := by simp; omega
      obtain ⟨c0, c1, c2, c3, c4, c5, c6, c7, hc⟩ := list8 (compressP_length [e0, e1, e2, e3, e4, e5, e6, e7] ((s.drop (64 * i)).take 64) (64 * (i : Int) + 64) false)
      have Hc := Lib.hid hc
      clear hc
      go_region_law (go_simp; go_at_call 93; refine (blk_Compress [e0, e1, e2, e3, e4, e5, e6, e7] rfl ((s.drop (64 * i)).take 64) hpl (64 * (i : Int) + 64) false _).mono ?_; rintro e w' ⟨rfl, hb'⟩; rw [Hc.out, show row [c0, c1, c2, c3, c4, c5, c6, c7] = #[.int .u32 c0, .int .u32 c1, .int .u32 c2, .int .u32 c3, .int .u32 c4, .int .u32 c5, .int .u32 c6, .int .u32 c7] from rfl]; have y0 : w'.cell? ⟨B, 0, none⟩ = some (.int .u32 e0) := (hb'.cell hBs).trans d0; have y1 : w'.cell? ⟨B, 1, none⟩ = some (.int .u32 e1) := (hb'.cell hBs).trans d1; have y2 : w'.cell? ⟨B, 2, none⟩ = some (.int .u32 e2) := (hb'.cell hBs).trans d2; have y3 : w'.cell? ⟨B, 3, none⟩ = some (.int .u32 e3) := (hb'.cell hBs).trans d3; have y4 : w'.cell? ⟨B, 4, none⟩ = some (.int .u32 e4) := (hb'.cell hBs).trans d4; have y5 : w'.cell? ⟨B, 5, none⟩ = some (.int .u32 e5) := (hb'.cell hBs).trans d5; have y6 : w'.cell? ⟨B, 6, none⟩ = some (.int .u32 e6) := (hb'.cell hBs).trans d6; have y7 : w'.cell? ⟨B, 7, none⟩ = some (.int .u32 e7) := (hb'.cell hBs).trans d7; have g0 : w'.frozen? ⟨B, 0, none⟩ = false := (hb'.frozen hBs).trans z0; have g1 : w'.frozen? ⟨B, 1, none⟩ = false := (hb'.frozen hBs).trans z1; have g2 : w'.frozen? ⟨B, 2, none⟩ = false := (hb'.frozen hBs).trans z2; have g3 : w'.frozen? ⟨B, 3, none⟩ = false := (hb'.frozen hBs).trans z3; have g4 : w'.frozen? ⟨B, 4, none⟩ = false := (hb'.frozen hBs).trans z4; have g5 : w'.frozen? ⟨B, 5, none⟩ = false := (hb'.frozen hBs).trans z5; have g6 : w'.frozen? ⟨B, 6, none⟩ = false := (hb'.frozen hBs).trans z6; have g7 : w'.frozen? ⟨B, 7, none⟩ = false := (hb'.frozen hBs).trans z7; have Hb' := Lib.hid hb'; clear hb')
      have hv0 := (Hb'.out.block B hBs).trans HB.out
      have hv := heap_setCell (i := 7) c7 (heap_setCell (i := 6) c6 (heap_setCell (i := 5) c5 (heap_setCell (i := 4) c4 (heap_setCell (i := 3) c3 (heap_setCell (i := 2) c2 (heap_setCell (i := 1) c1 (heap_setCell (i := 0) c0 (hv0))))))))
      have hbw : Below w.heap.size w w' := hb.drew.trans (Hb'.out.mono hb.size)
      have hbw' := Below.setCell (Below.setCell (Below.setCell (Below.setCell (Below.setCell (Below.setCell (Below.setCell (Below.setCell (hbw) (p := ⟨B, 0, none⟩) hBw (.int .u32 c0)) (p := ⟨B, 1, none⟩) hBw (.int .u32 c1)) (p := ⟨B, 2, none⟩) hBw (.int .u32 c2)) (p := ⟨B, 3, none⟩) hBw (.int .u32 c3)) (p := ⟨B, 4, none⟩) hBw (.int .u32 c4)) (p := ⟨B, 5, none⟩) hBw (.int .u32 c5)) (p := ⟨B, 6, none⟩) hBw (.int .u32 c6)) (p := ⟨B, 7, none⟩) hBw (.int .u32 c7)
      have hsz' := Hb'.out.size
      go_wp2
      go_roundw
      case rel => exact ⟨i + 1, by omega, by go_num, hbw', (by simp [World.setCell]; simp at hsz'; omega), (by rw [hAt, He.out, show ((64 * i + 64 : Nat) : Int) = 64 * (i : Int) + 64 by omega, Hc.out]; exact hv)⟩
      case measure => simp [intOf]; omega
    · have hie : i = L := by omega
      have hle : s.length ≤ 64 * i + 64 := by omega
      have hge : 64 * i ≤ s.length := by omega
      have hw1 : IntKind.i64.wrap (64 - ((s.length : Int) - 64 * (i : Int))) = 64 - ((s.length : Int) - 64 * (i : Int)) := IntWalk.i64_in _ (by omega)
      have hw2 : IntKind.i64.wrap ((s.length : Int) - 64 * (i : Int)) = (s.length : Int) - 64 * (i : Int) := IntWalk.i64_in _ (by omega)
      have hw3 : 64 * (i : Int) ≤ (s.length : Int) := by omega
      have hw4 : (0 : Int) ≤ 64 * (i : Int) := by omega
      have hw5 : (64 * (i : Int)).toNat = 64 * i := by omega
      obtain ⟨c, hc64⟩ : ∃ c : Nat, (64 : Int) - ((s.length : Int) - 64 * (i : Int)) = c := ⟨64 - (s.length - 64 * i), by omega⟩
      have hcn : c = 64 - (s.length - 64 * i) := by omega
      have HB := Lib.hid hB; clear hB
      have Hie := Lib.hid (show lastAt s = i by rw [HL.out, hie])
      have Hcn := Lib.hid hcn
      have hc1 : c ≤ 64 := by omega
      have hrl : (Lib.repeatL [0] (c : Int).toNat).length ≤ 100 := by rw [Lib.repeatL_length]; simp; omega
      have hrl2 : (Lib.repeatL [0] c).length ≤ 100 := by rw [Lib.repeatL_length]; simp; omega
      clear hie hL' hcn hlt hi
      go_wp2_with fail
      refine wp_region_quiet_below (by kernel_rfl) (by kernel_rfl) ?_
      repeat (go_big_quiet_step ((exact Calls.regrown_of (lib_Repeat [0] c _ (by omega) (by omega) (by simp; omega)))))
      refine wpQuiet_nil ?_
      intro w2 hwq
      have hb2 : Below (wr).heap.size (wr) w2 := by
        obtain ⟨pq, rfl⟩ := hwq
        exact below_regrown _ _ _
      clear hwq
      obtain ⟨PB, hPB⟩ : ∃ PB, List.take (s.length - 64 * i) (List.drop (64 * i) s) ++ Lib.repeatL [0] c = PB := ⟨_, rfl⟩
      rw [hPB]
      have HPB := Lib.hid (show PB = s.drop (64 * i) ++ List.replicate (64 - (s.length - 64 * i)) 0 by rw [← hPB, repeatL_one, List.take_of_length_le (by simp), Hcn.out])
      have hPl : PB.length = 64 := by rw [HPB.out]; simp; omega
      clear hPB hrl hrl2
      have hl8 := hAt_length s i
      have Hsum := Lib.hid (show sumWords s = compressP (hAt s i) PB (s.length : Int) true by rw [sumWords, Hie.out, HPB.out])
      have hB2 := (hb2.block B hBs).trans HB.out
      have hsz2 : B < w2.heap.size := by have := hb2.size; omega
      have hbw2 : Below w.heap.size w w2 := hb.trans (hb2.mono hb.size)
      generalize hAt s i = F at hB2 hl8 Hsum
      have hi8 : (Tryz.prog.info? 101).map (·.size) = some (row F).size := by rw [row_size, hl8]; kernel_rfl
      have hu64 : IntKind.u64.wrap (s.length : Int) = (s.length : Int) := IntWalk.u64_in _ (by omega)
      clear hb2 HB
      go_wp2_with (refine wpList_load_row rfl 101 _ rfl B rfl 101 (row F) (0, 0) _ hB2 Tryz.underlying101 rfl hi8 ?_)
      refine (blk_Compress F hl8 PB hPl (s.length : Int) true _).mono ?_
      rintro e w3 ⟨rfl, hb3⟩
      rw [← Hsum.out]
      have hl8' : (sumWords s).length = 8 := compressP_length ..
      obtain ⟨G, hG⟩ : ∃ G, sumWords s = G := ⟨_, rfl⟩
      have HG := Lib.hid hG
      rw [hG] at hl8' ⊢
      clear hG
      have hB3 := (hb3.block B hsz2).trans hB2
      have hsz3 : B < w3.heap.size := by have := hb3.size; omega
      have hbw3 : Below w.heap.size w w3 := hbw2.trans (hb3.mono hbw2.size)
      have hi8' : (Tryz.prog.info? 101).map (·.size) = some (row G).size := by rw [row_size, hl8']; kernel_rfl
      have hz8 : (row F).size = (row G).size := by rw [row_size, row_size, hl8, hl8']
      have ho8 : (row G).all (·.oneCell') = true := by simp [row, Value.oneCell']
      clear hb3 Hsum
      go_upto_region 10 with (refine wpList_store_row rfl 101 _ _ rfl B (row G) rfl rfl 101 (row F) hB3 hi8' hz8 ho8 ?_)
      have hB4 : (w3.setRow B (row G)).heap[B]? = some (.cells (row G) 101 (0, 0)) := setRow_heap _ _ _ _ _ _ hB3
      have hbw4 : Below w.heap.size w (w3.setRow B (row G)) := below_setRow hbw3 hBw _
      have hsz4 : B < (w3.setRow B (row G)).heap.size := by simpa using hsz3
      generalize w3.setRow B (row G) = w4 at hB4 hbw4 hsz4
      clear hB3 hbw3 hsz3
      obtain ⟨ZZ, hZZ, hmk⟩ := blk_make
      have hB5 : (w4.alloc (.cells ZZ 5)).heap[B]? = some (.cells (row G) 101 (0, 0)) := (Below.heap_alloc _ _ _ hsz4).trans hB4
      go_wp2_with (refine wpList_load_row rfl 101 _ rfl B rfl 101 (row G) (0, 0) _ hB5 Tryz.underlying101 rfl hi8' ?_)
      have hB0 : w.heap.size ≤ w4.heap.size := hbw4.size
      have Hst := Lib.hid (show OwnS tB 5 (fun _ => none) (w4.alloc (.cells ZZ 5)) w4.heap.size (.slice (some ⟨w4.heap.size, 0, none⟩) 0 32) [] from ⟨[], World.ownsRow_made w4 ZZ 32 (Nat.le_refl _) (by decide) (by rw [hZZ]; rfl), LiesL.nil _ _⟩)
      have Hbl := Lib.hid (hbw4.alloc hB0 (.cells ZZ 5))
      obtain ⟨B0, hB0e⟩ : ∃ B0, w4.heap.size = B0 := ⟨_, rfl⟩
      have hsz5 : B0 ≤ (w4.alloc (.cells ZZ 5)).heap.size := by simp; omega
      rw [hB0e] at hB0 Hst ⊢
      clear hB4 hB5 hbw4 hsz4 hmk
      go_loopw [7, 58] (fun s7 s58 wr => ∃ k : Nat, k ≤ 8 ∧ s58 = .int .i64 k ∧ OwnS tB 5 (fun _ => none) wr B0 s7 (outTo G k) ∧ Below w.heap.size w wr ∧ B0 ≤ wr.heap.size) (fun _ k _ => 8 - (intOf k).toNat)
      case atStart => exact ⟨0, Nat.zero_le _, rfl, Hst.out, Hbl.out, hsz5⟩
      case round =>
        clear Hst Hbl hsz5
        obtain ⟨k, hk, rfl, hown, hbk, hszk⟩ := hrel
        by_cases hltk : k < 8
        · have hix := run_index_one (P := Tryz.prog) Tryz.underlying101 Tryz.underlying100 rfl (by kernel_rfl) k hltk (row_at (l := G) (i := k) (by omega))
          have Hsc := Lib.hid (outTo_succ G k (by omega))
          have hol := outTo_length G k
          generalize G.getD k 0 = x at hix Hsc
          have hwl : (wordBytes x).length = 4 := rfl
          have hly := wordBytes_lies (fun _ => none) x
          go_wp2_with (at_builtin; refine wpList_appendL (w0 := wr) u8_elem rfl _ _ rfl _ _ _ rfl hown (wordBytes x) [.int .u8 (x % 256), .int .u8 (x / 256 % 256), .int .u8 (x / 65536 % 256), .int .u8 (x / 16777216 % 256)] _ rfl hly (by rw [hwl]; omega) (by rw [hwl]; omega) (by rw [hwl]; omega) hszk ?_)
          intro v5 w5 hown5 hg5
          have hb5 := Below.own hbk hg5 hown hB0 hszk
          have hsz5 := hg5.size
          go_wp2
          go_roundw
          case rel => exact ⟨k + 1, by omega, by go_num, by rw [Hsc.out]; exact hown5, hb5, by omega⟩
          case measure => simp [intOf]; omega
        · have hke : k = 8 := by omega
          have Hret := Lib.hid (show (outTo G k).map (fun x => UInt8.ofNat x.toNat) = sumP s by rw [sumP, HG.out, hke])
          have hpos : 0 < (outTo G k).length := by rw [hke]; match G, hl8' with | _ :: _, _ => simp [outTo, wordBytes]
          have hcv := conv_own (P := Tryz.prog) Tryz.underlying92 Tryz.underlying5 Tryz.underlying9 _ hown hpos
          rw [Hret.out] at hcv
          clear hown hpos hke
          go_wp2
          go_ret
          exact ⟨rfl, hbk⟩
end Go.Proofs.YtcbmdghnlbieeaaGreatDoor
namespace Go.Proofs.YtcbmdghnlbieeaaGreatDoor
open Go.RowKit

/-- Four words of a row set. -/
def four (l : List Int) (a b c d : Nat) (va vb vc vd : Int) : List Int := (((l.set a va).set b vb).set c vc).set d vd
theorem four_length (l : List Int) (a b c d : Nat) (va vb vc vd : Int) : (four l a b c d va vb vc vd).length = l.length := by simp [four]
theorem four_self (l : List Int) (a b c d : Nat) (ha : a < l.length) (hb : b < l.length) (hc : c < l.length) (hd : d < l.length) : four l a b c d (l.getD a 0) (l.getD b 0) (l.getD c 0) (l.getD d 0) = l := by
  simp [four, List.getD, ha, hb, hc, hd]

structure Apart (n a b c d : Nat) : Prop where
  la : a < n
  lb : b < n
  lc : c < n
  ld : d < n
  ab : a ≠ b
  ac : a ≠ c
  ad : a ≠ d
  bc : b ≠ c
  bd : b ≠ d
  cd : c ≠ d

section
variable {l : List Int} {a b c d : Nat} {va vb vc vd : Int}
theorem four_seta (h : Apart l.length a b c d) (x : Int) : (four l a b c d va vb vc vd).set a x = four l a b c d x vb vc vd := by
  unfold four
  rw [List.set_comm _ _ h.ad.symm, List.set_comm _ _ h.ac.symm, List.set_comm _ _ h.ab.symm, List.set_set]
theorem four_setb (h : Apart l.length a b c d) (x : Int) : (four l a b c d va vb vc vd).set b x = four l a b c d va x vc vd := by
  unfold four
  rw [List.set_comm _ _ h.bd.symm, List.set_comm _ _ h.bc.symm, List.set_set]
theorem four_setc (h : Apart l.length a b c d) (x : Int) : (four l a b c d va vb vc vd).set c x = four l a b c d va vb x vd := by
  unfold four
  rw [List.set_comm _ _ h.cd.symm, List.set_set]
theorem four_setd (_h : Apart l.length a b c d) (x : Int) : (four l a b c d va vb vc vd).set d x = four l a b c d va vb vc x := by
  unfold four
  rw [List.set_set]
theorem getD_set_ne' {l : List Int} {i j : Nat} (h : i ≠ j) (x : Int) : (l.set i x).getD j 0 = l.getD j 0 := by
  simp [List.getD, List.getElem?_set_ne h]
theorem getD_set_eq' {l : List Int} {i : Nat} (h : i < l.length) (x : Int) : (l.set i x).getD i 0 = x := by
  simp [List.getD, h]
theorem four_a (h : Apart l.length a b c d) : (four l a b c d va vb vc vd).getD a 0 = va := by
  unfold four
  rw [getD_set_ne' h.ad.symm, getD_set_ne' h.ac.symm, getD_set_ne' h.ab.symm, getD_set_eq' h.la]
theorem four_b (h : Apart l.length a b c d) : (four l a b c d va vb vc vd).getD b 0 = vb := by
  unfold four
  rw [getD_set_ne' h.bd.symm, getD_set_ne' h.bc.symm, getD_set_eq' (by simpa using h.lb)]
theorem four_c (h : Apart l.length a b c d) : (four l a b c d va vb vc vd).getD c 0 = vc := by
  unfold four
  rw [getD_set_ne' h.cd.symm, getD_set_eq' (by simpa using h.lc)]
theorem four_d (h : Apart l.length a b c d) : (four l a b c d va vb vc vd).getD d 0 = vd := by
  unfold four
  rw [getD_set_eq' (by simpa using h.ld)]
end

/-- mix's memory: the row with its four words, and the result's row. -/
structure MixM (w : World) (t : TypeId) (l : List Int) (a b c d : Nat) (va vb vc vd : Int) (X : World) : Prop where
  row_ : X.heap[w.heap.size]? = some (.cells (row (four l a b c d va vb vc vd)) t (0, 0))
  zero : X.heap[w.heap.size + 1]? = some (.cells (row (List.replicate 16 0)) t (0, 0))
  below : Below w.heap.size w X

section
variable {w X X' : World} {t : TypeId} {l : List Int} {a b c d : Nat} {va vb vc vd : Int}
theorem MixM.lt (h : MixM w t l a b c d va vb vc vd X) : w.heap.size + 1 < X.heap.size := (Array.getElem?_eq_some_iff.1 h.zero).1
theorem MixM.pass (h : MixM w t l a b c d va vb vc vd X) (hb : Below X.heap.size X X') : MixM w t l a b c d va vb vc vd X' :=
  ⟨(hb.block _ (by have := h.lt; omega)).trans h.row_, (hb.block _ h.lt).trans h.zero, h.below.trans (hb.mono h.below.size)⟩
theorem MixM.cell (h : MixM w t l a b c d va vb vc vd X) (q : Nat) (hq : q < l.length) : X.cell? ⟨w.heap.size, q, none⟩ = some (.int .u32 ((four l a b c d va vb vc vd).getD q 0)) :=
  (cell_of_row X _ q _ _ _ h.row_).trans (row_at (by rw [four_length]; exact hq))
theorem MixM.ca (h : MixM w t l a b c d va vb vc vd X) (k : Apart l.length a b c d) : X.cell? ⟨w.heap.size, a, none⟩ = some (.int .u32 va) := by rw [h.cell a k.la, four_a k]
theorem MixM.cb (h : MixM w t l a b c d va vb vc vd X) (k : Apart l.length a b c d) : X.cell? ⟨w.heap.size, b, none⟩ = some (.int .u32 vb) := by rw [h.cell b k.lb, four_b k]
theorem MixM.cc (h : MixM w t l a b c d va vb vc vd X) (k : Apart l.length a b c d) : X.cell? ⟨w.heap.size, c, none⟩ = some (.int .u32 vc) := by rw [h.cell c k.lc, four_c k]
theorem MixM.cd (h : MixM w t l a b c d va vb vc vd X) (k : Apart l.length a b c d) : X.cell? ⟨w.heap.size, d, none⟩ = some (.int .u32 vd) := by rw [h.cell d k.ld, four_d k]
theorem MixM.fr (h : MixM w t l a b c d va vb vc vd X) (q : Nat) : X.frozen? ⟨w.heap.size, q, none⟩ = false := frozen_of_row X _ q _ _ h.row_
theorem MixM.put (h : MixM w t l a b c d va vb vc vd X) (q : Nat) (x : Int) {L : List Int} (hL : (four l a b c d va vb vc vd).set q x = L) {va' vb' vc' vd' : Int} (hL' : L = four l a b c d va' vb' vc' vd') : MixM w t l a b c d va' vb' vc' vd' (X.setCell ⟨w.heap.size, q, none⟩ (.int .u32 x)) := by
  subst hL'
  refine ⟨?_, ?_, h.below.setCell (p := ⟨w.heap.size, q, none⟩) (Nat.le_refl _) _⟩
  · rw [← hL]; exact heap_setCell x h.row_
  · rw [Below.heap_setCell _ _ _ _ (by simp)]; exact h.zero
theorem MixM.pa (h : MixM w t l a b c d va vb vc vd X) (k : Apart l.length a b c d) (x : Int) : MixM w t l a b c d x vb vc vd (X.setCell ⟨w.heap.size, a, none⟩ (.int .u32 x)) := h.put a x (four_seta k x) rfl
theorem MixM.pb (h : MixM w t l a b c d va vb vc vd X) (k : Apart l.length a b c d) (x : Int) : MixM w t l a b c d va x vc vd (X.setCell ⟨w.heap.size, b, none⟩ (.int .u32 x)) := h.put b x (four_setb k x) rfl
theorem MixM.pc (h : MixM w t l a b c d va vb vc vd X) (k : Apart l.length a b c d) (x : Int) : MixM w t l a b c d va vb x vd (X.setCell ⟨w.heap.size, c, none⟩ (.int .u32 x)) := h.put c x (four_setc k x) rfl
theorem MixM.pd (h : MixM w t l a b c d va vb vc vd X) (k : Apart l.length a b c d) (x : Int) : MixM w t l a b c d va vb vc x (X.setCell ⟨w.heap.size, d, none⟩ (.int .u32 x)) := h.put d x (four_setd k x) rfl
end

theorem ref04_rotate_b (x : Int) (k d m : Int) (hk : RotAt k d m) (w : World) :
    Calls Tryz.prog 197 #[.int .u32 x, .int .u64 k] w fun e w' => e = .returned (.int .u32 (rotr d m x)) ∧ Below w.heap.size w w' :=
  (ref04_rotate x k d m hk w).mono fun _ _ ⟨h1, h2⟩ => ⟨h1, by rw [h2]; exact Below.refl _ _⟩
theorem rotAt16 : RotAt 16 65536 65536 := .inl ⟨rfl, rfl, rfl⟩
theorem rotAt12 : RotAt 12 4096 1048576 := .inr (.inl ⟨rfl, rfl, rfl⟩)
theorem rotAt8 : RotAt 8 256 16777216 := .inr (.inr (.inl ⟨rfl, rfl, rfl⟩))
theorem rotAt7 : RotAt 7 128 33554432 := .inr (.inr (.inr ⟨rfl, rfl, rfl⟩))

theorem list16 {α : Type} : ∀ {l : List α}, l.length = 16 → ∃ a b c d e f g h i j k m n o p q, l = [a, b, c, d, e, f, g, h, i, j, k, m, n, o, p, q]
  | [a, b, c, d, e, f, g, h, i, j, k, m, n, o, p, q], _ => ⟨a, b, c, d, e, f, g, h, i, j, k, m, n, o, p, q, rfl⟩

set_option maxRecDepth 100000 in
set_option maxHeartbeats 2000000 in
theorem ref04_mix (l : List Int) (hl : l.length = 16) (qa qb qc qd : Nat) (x y : Int) (w : World) (hap : Apart 16 qa qb qc qd) :
    Calls Tryz.prog 174 #[.agg (row l), .int .i64 qa, .int .i64 qb, .int .i64 qc, .int .i64 qd, .int .u32 x, .int .u32 y] w fun e w' => e = .returned (.agg (row (mixP l qa qb qc qd x y))) ∧ Below w.heap.size w w' := by
  have Hap : Hid (Apart l.length qa qb qc qd) := Lib.hid (by rw [hl]; exact hap)
  have hM0 : MixM w 118 l qa qb qc qd (l.getD qa 0) (l.getD qb 0) (l.getD qc 0) (l.getD qd 0) ((w.alloc (.cells (row l) 118)).alloc (.cells (row (List.replicate 16 0)) 118)) :=
    ⟨by rw [four_self _ _ _ _ _ Hap.out.la Hap.out.lb Hap.out.lc Hap.out.ld]; exact (Below.heap_alloc (w.alloc (.cells (row l) 118)) (.cells (row (List.replicate 16 0)) 118) w.heap.size (by simp)).trans (heap_alloc_new w (.cells (row l) 118)),
      (by have h := heap_alloc_new (w.alloc (.cells (row l) 118)) (.cells (row (List.replicate 16 0)) 118); rwa [show (w.alloc (.cells (row l) 118)).heap.size = w.heap.size + 1 by simp] at h),
      ((Below.refl w.heap.size w).alloc (Nat.le_refl _) (.cells (row l) 118)).alloc (by simp) (.cells (row (List.replicate 16 0)) 118)⟩
  obtain ⟨va, eva⟩ : ∃ va, l.getD qa 0 = va := ⟨_, rfl⟩
  obtain ⟨vb, evb⟩ : ∃ vb, l.getD qb 0 = vb := ⟨_, rfl⟩
  obtain ⟨vc, evc⟩ : ∃ vc, l.getD qc 0 = vc := ⟨_, rfl⟩
  obtain ⟨vd, evd⟩ : ∃ vd, l.getD qd 0 = vd := ⟨_, rfl⟩
  have Hm := Lib.hid (show mixP l qa qb qc qd x y = four l qa qb qc qd (mixW va vb vc vd x y).1 (mixW va vb vc vd x y).2.1 (mixW va vb vc vd x y).2.2.1 (mixW va vb vc vd x y).2.2.2 by rw [mixP, eva, evb, evc, evd, four])
  rw [eva, evb, evc, evd] at hM0
  clear eva evb evc evd
  have HM := Lib.hid hM0
  clear hM0
  have n1 : (qa : Int) < 16 := by have := hap.la; omega
  have n2 : (qb : Int) < 16 := by have := hap.lb; omega
  have n3 : (qc : Int) < 16 := by have := hap.lc; omega
  have n4 : (qd : Int) < 16 := by have := hap.ld; omega
  clear hap
  obtain ⟨v0, v1, v2, v3, v4, v5, v6, v7, v8, v9, v10, v11, v12, v13, v14, v15, hll⟩ := list16 hl
  have hrow : row l = #[.int .u32 v0, .int .u32 v1, .int .u32 v2, .int .u32 v3, .int .u32 v4, .int .u32 v5, .int .u32 v6, .int .u32 v7, .int .u32 v8, .int .u32 v9, .int .u32 v10, .int .u32 v11, .int .u32 v12, .int .u32 v13, .int .u32 v14, .int .u32 v15] := by rw [hll]; rfl
  have Hll := Lib.hid hll
  have Hrow := Lib.hid hrow
  have Hlen := Lib.hid hl
  clear hll hrow hl
  rw [Hrow.out]
  go_enter Tryz.func174, Tryz.ntmps174
  go_wp2_with fail
  rw [← Hrow.out]
  rw [show (#[.int .u32 0, .int .u32 0, .int .u32 0, .int .u32 0, .int .u32 0, .int .u32 0, .int .u32 0, .int .u32 0, .int .u32 0, .int .u32 0, .int .u32 0, .int .u32 0, .int .u32 0, .int .u32 0, .int .u32 0, .int .u32 0] : Array Value) = row (List.replicate 16 0) from rfl]
  generalize (w.alloc (.cells (row l) 118)).alloc (.cells (row (List.replicate 16 0)) 118) = X at HM ⊢
  clear Hrow Hll
  have g1 := cell_regrown (HM.out.ca Hap.out)
  have g2 := cell_regrown (HM.out.cb Hap.out)
  refine wp_region_below_tail 11 (by kernel_rfl) (by kernel_rfl) ?_
  simp only [List.take_succ_cons, List.take_zero, List.drop_succ_cons, List.drop_zero]
  repeat (go_big_quiet_step ((fail)))
  refine wpQuiet_nil ?_
  intro X1 hwq
  have hbt : Below (X).heap.size (X) X1 := by
    obtain ⟨pq, rfl⟩ := hwq
    exact below_regrown _ _ _
  clear hwq
  have hMt := HM.out.pass hbt
  clear g1 g2 hbt HM
  have HM := Lib.hid hMt
  have g1 := hMt.ca Hap.out
  have g2 := fun q => hMt.fr q
  clear hMt
  go_wp2_with fail
  have hMt := HM.out.pa Hap.out ((va + vb + x) % 4294967296)
  clear HM g1 g2
  obtain ⟨a1, ha1⟩ : ∃ a1, (va + vb + x) % 4294967296 = a1 := ⟨_, rfl⟩
  rw [ha1] at hMt ⊢
  have Ha1 := Lib.hid ha1
  clear ha1
  have HM := Lib.hid hMt
  clear hMt
  generalize X1.setCell _ _ = X at HM ⊢
  have g1 := cell_regrown (HM.out.cd Hap.out)
  have g2 := cell_regrown (HM.out.ca Hap.out)
  refine wp_region_below_tail 10 (by kernel_rfl) (by kernel_rfl) ?_
  simp only [List.take_succ_cons, List.take_zero, List.drop_succ_cons, List.drop_zero]
  repeat (go_big_quiet_step ((exact Calls.regrown_of (ref04_rotate_b _ _ _ _ rotAt16 _))))
  refine wpQuiet_nil ?_
  intro X1 hwq
  have hbt : Below (X).heap.size (X) X1 := by
    obtain ⟨pq, rfl⟩ := hwq
    exact below_regrown _ _ _
  clear hwq
  have hMt := HM.out.pass hbt
  clear g1 g2 hbt HM
  have HM := Lib.hid hMt
  have g1 := hMt.cd Hap.out
  have g2 := fun q => hMt.fr q
  clear hMt
  go_wp2_with fail
  have hMt := HM.out.pd Hap.out (rotr 65536 65536 (bits .xor .u32 vd a1))
  clear HM g1 g2
  obtain ⟨d1, hd1⟩ : ∃ d1, rotr 65536 65536 (bits .xor .u32 vd a1) = d1 := ⟨_, rfl⟩
  rw [hd1] at hMt ⊢
  have Hd1 := Lib.hid hd1
  clear hd1
  have HM := Lib.hid hMt
  clear hMt
  generalize X1.setCell _ _ = X at HM ⊢
  have g1 := cell_regrown (HM.out.cc Hap.out)
  have g2 := cell_regrown (HM.out.cd Hap.out)
  refine wp_region_below_tail 9 (by kernel_rfl) (by kernel_rfl) ?_
  simp only [List.take_succ_cons, List.take_zero, List.drop_succ_cons, List.drop_zero]
  repeat (go_big_quiet_step ((fail)))
  refine wpQuiet_nil ?_
  intro X1 hwq
  have hbt : Below (X).heap.size (X) X1 := by
    obtain ⟨pq, rfl⟩ := hwq
    exact below_regrown _ _ _
  clear hwq
  have hMt := HM.out.pass hbt
  clear g1 g2 hbt HM
  have HM := Lib.hid hMt
  have g1 := hMt.cc Hap.out
  have g2 := fun q => hMt.fr q
  clear hMt
  go_wp2_with fail
  have hMt := HM.out.pc Hap.out ((vc + d1) % 4294967296)
  clear HM g1 g2
  obtain ⟨c1, hc1⟩ : ∃ c1, (vc + d1) % 4294967296 = c1 := ⟨_, rfl⟩
  rw [hc1] at hMt ⊢
  have Hc1 := Lib.hid hc1
  clear hc1
  have HM := Lib.hid hMt
  clear hMt
  generalize X1.setCell _ _ = X at HM ⊢
  have g1 := cell_regrown (HM.out.cb Hap.out)
  have g2 := cell_regrown (HM.out.cc Hap.out)
  refine wp_region_below_tail 10 (by kernel_rfl) (by kernel_rfl) ?_
  simp only [List.take_succ_cons, List.take_zero, List.drop_succ_cons, List.drop_zero]
  repeat (go_big_quiet_step ((exact Calls.regrown_of (ref04_rotate_b _ _ _ _ rotAt12 _))))
  refine wpQuiet_nil ?_
  intro X1 hwq
  have hbt : Below (X).heap.size (X) X1 := by
    obtain ⟨pq, rfl⟩ := hwq
    exact below_regrown _ _ _
  clear hwq
  have hMt := HM.out.pass hbt
  clear g1 g2 hbt HM
  have HM := Lib.hid hMt
  have g1 := hMt.cb Hap.out
  have g2 := fun q => hMt.fr q
  clear hMt
  go_wp2_with fail
  have hMt := HM.out.pb Hap.out (rotr 4096 1048576 (bits .xor .u32 vb c1))
  clear HM g1 g2
  obtain ⟨b1, hb1⟩ : ∃ b1, rotr 4096 1048576 (bits .xor .u32 vb c1) = b1 := ⟨_, rfl⟩
  rw [hb1] at hMt ⊢
  have Hb1 := Lib.hid hb1
  clear hb1
  have HM := Lib.hid hMt
  clear hMt
  generalize X1.setCell _ _ = X at HM ⊢
  have g1 := cell_regrown (HM.out.ca Hap.out)
  have g2 := cell_regrown (HM.out.cb Hap.out)
  refine wp_region_below_tail 11 (by kernel_rfl) (by kernel_rfl) ?_
  simp only [List.take_succ_cons, List.take_zero, List.drop_succ_cons, List.drop_zero]
  repeat (go_big_quiet_step ((fail)))
  refine wpQuiet_nil ?_
  intro X1 hwq
  have hbt : Below (X).heap.size (X) X1 := by
    obtain ⟨pq, rfl⟩ := hwq
    exact below_regrown _ _ _
  clear hwq
  have hMt := HM.out.pass hbt
  clear g1 g2 hbt HM
  have HM := Lib.hid hMt
  have g1 := hMt.ca Hap.out
  have g2 := fun q => hMt.fr q
  clear hMt
  go_wp2_with fail
  have hMt := HM.out.pa Hap.out ((a1 + b1 + y) % 4294967296)
  clear HM g1 g2
  obtain ⟨a2, ha2⟩ : ∃ a2, (a1 + b1 + y) % 4294967296 = a2 := ⟨_, rfl⟩
  rw [ha2] at hMt ⊢
  have Ha2 := Lib.hid ha2
  clear ha2
  have HM := Lib.hid hMt
  clear hMt
  generalize X1.setCell _ _ = X at HM ⊢
  have g1 := cell_regrown (HM.out.cd Hap.out)
  have g2 := cell_regrown (HM.out.ca Hap.out)
  refine wp_region_below_tail 10 (by kernel_rfl) (by kernel_rfl) ?_
  simp only [List.take_succ_cons, List.take_zero, List.drop_succ_cons, List.drop_zero]
  repeat (go_big_quiet_step ((exact Calls.regrown_of (ref04_rotate_b _ _ _ _ rotAt8 _))))
  refine wpQuiet_nil ?_
  intro X1 hwq
  have hbt : Below (X).heap.size (X) X1 := by
    obtain ⟨pq, rfl⟩ := hwq
    exact below_regrown _ _ _
  clear hwq
  have hMt := HM.out.pass hbt
  clear g1 g2 hbt HM
  have HM := Lib.hid hMt
  have g1 := hMt.cd Hap.out
  have g2 := fun q => hMt.fr q
  clear hMt
  go_wp2_with fail
  have hMt := HM.out.pd Hap.out (rotr 256 16777216 (bits .xor .u32 d1 a2))
  clear HM g1 g2
  obtain ⟨d2, hd2⟩ : ∃ d2, rotr 256 16777216 (bits .xor .u32 d1 a2) = d2 := ⟨_, rfl⟩
  rw [hd2] at hMt ⊢
  have Hd2 := Lib.hid hd2
  clear hd2
  have HM := Lib.hid hMt
  clear hMt
  generalize X1.setCell _ _ = X at HM ⊢
  have g1 := cell_regrown (HM.out.cc Hap.out)
  have g2 := cell_regrown (HM.out.cd Hap.out)
  refine wp_region_below_tail 9 (by kernel_rfl) (by kernel_rfl) ?_
  simp only [List.take_succ_cons, List.take_zero, List.drop_succ_cons, List.drop_zero]
  repeat (go_big_quiet_step ((fail)))
  refine wpQuiet_nil ?_
  intro X1 hwq
  have hbt : Below (X).heap.size (X) X1 := by
    obtain ⟨pq, rfl⟩ := hwq
    exact below_regrown _ _ _
  clear hwq
  have hMt := HM.out.pass hbt
  clear g1 g2 hbt HM
  have HM := Lib.hid hMt
  have g1 := hMt.cc Hap.out
  have g2 := fun q => hMt.fr q
  clear hMt
  go_wp2_with fail
  have hMt := HM.out.pc Hap.out ((c1 + d2) % 4294967296)
  clear HM g1 g2
  obtain ⟨c2, hc2⟩ : ∃ c2, (c1 + d2) % 4294967296 = c2 := ⟨_, rfl⟩
  rw [hc2] at hMt ⊢
  have Hc2 := Lib.hid hc2
  clear hc2
  have HM := Lib.hid hMt
  clear hMt
  generalize X1.setCell _ _ = X at HM ⊢
  have g1 := cell_regrown (HM.out.cb Hap.out)
  have g2 := cell_regrown (HM.out.cc Hap.out)
  refine wp_region_below_tail 10 (by kernel_rfl) (by kernel_rfl) ?_
  simp only [List.take_succ_cons, List.take_zero, List.drop_succ_cons, List.drop_zero]
  repeat (go_big_quiet_step ((exact Calls.regrown_of (ref04_rotate_b _ _ _ _ rotAt7 _))))
  refine wpQuiet_nil ?_
  intro X1 hwq
  have hbt : Below (X).heap.size (X) X1 := by
    obtain ⟨pq, rfl⟩ := hwq
    exact below_regrown _ _ _
  clear hwq
  have hMt := HM.out.pass hbt
  clear g1 g2 hbt HM
  have HM := Lib.hid hMt
  have g1 := hMt.cb Hap.out
  have g2 := fun q => hMt.fr q
  clear hMt
  have hMt := HM.out.pb Hap.out (rotr 128 33554432 (bits .xor .u32 b1 c2))
  have hfin : mixP l qa qb qc qd x y = four l qa qb qc qd a2 (rotr 128 33554432 (bits .xor .u32 b1 c2)) c2 d2 := by
    rw [Hm.out]
    simp only [mixW, ← Int.add_assoc, Ha1.out, Hd1.out, Hc1.out, Hb1.out, Ha2.out, Hd2.out, Hc2.out]
  clear Ha1 Hd1 Hc1 Hb1 Ha2 Hd2 Hc2 Hm
  have h0 := hMt.row_
  have h1 := hMt.zero
  have hbw := hMt.below
  have hlen : (four l qa qb qc qd a2 (rotr 128 33554432 (bits .xor .u32 b1 c2)) c2 d2).length = 16 := by rw [four_length, Hlen.out]
  generalize four l qa qb qc qd a2 (rotr 128 33554432 (bits .xor .u32 b1 c2)) c2 d2 = F at h0 hlen hfin
  have Hfin := Lib.hid hfin
  clear hfin
  clear hMt HM
  have hi16 : (Tryz.prog.info? 118).map (·.size) = some (row F).size := by rw [row_size, hlen]; kernel_rfl
  have hz16 : (row (List.replicate 16 0)).size = (row F).size := by rw [row_size, row_size, hlen]; rfl
  have ho16 : (row F).all (·.oneCell') = true := by simp [row, Value.oneCell']
  clear hlen
  go_wp2_with (first
    | (refine wpList_load_row rfl 118 _ rfl w.heap.size rfl 118 (row F) (0, 0) _ h0 Tryz.underlying118 rfl hi16 ?_)
    | (refine wpList_store_row rfl 118 _ _ rfl (w.heap.size + 1) (row F) rfl rfl 118 (row (List.replicate 16 0)) h1 hi16 hz16 ho16 ?_))
  refine bodyPost_ret (results_cell_row rfl _ _ (w.heap.size + 1) _ (row F) (0, 0) _ rfl (setRow_heap _ _ _ _ _ _ h1) Tryz.underlying118 rfl hi16) rfl ⟨by rw [Hfin.out], below_setRow hbw (by omega) _⟩
end Go.Proofs.YtcbmdghnlbieeaaGreatDoor
namespace Go.Proofs.YtcbmdghnlbieeaaGreatDoor
open Go.RowKit

theorem xor_assoc32 (a b c : Int) : bits .xor .u32 (bits .xor .u32 a b) c = bits .xor .u32 a (bits .xor .u32 b c) := by
  have hr : ∀ x : BitVec 32, BitVec.ofInt 32 (x.toNat : Int) = x := fun x => by
    apply BitVec.eq_of_toNat_eq
    simp
  have hb : ∀ x y : Int, bits .xor .u32 x y = ((BitVec.ofInt 32 x ^^^ BitVec.ofInt 32 y).toNat : Int) := fun x y => by
    have := (BitVec.ofInt 32 x ^^^ BitVec.ofInt 32 y).isLt
    simp only [bits, IntKind.wrap, IntKind.bits, IntKind.signed]
    exact Int.emod_eq_of_lt (by omega) (by omega)
  rw [hb, hb a b, hb a, hb b c, hr, hr, BitVec.xor_assoc]
theorem or_zero32 (a : Int) (h0 : 0 ≤ a) (h1 : a < 4294967296) : bits .or .u32 0 a = a := by
  have hb : bits .or .u32 0 a = ((BitVec.ofInt 32 0 ||| BitVec.ofInt 32 a).toNat : Int) := by
    have := (BitVec.ofInt 32 0 ||| BitVec.ofInt 32 a).isLt
    simp only [bits, IntKind.wrap, IntKind.bits, IntKind.signed]
    exact Int.emod_eq_of_lt (by omega) (by omega)
  rw [hb]
  simp
  omega

/-- The words taken in byte by byte. -/
def pW (s : Bytes) (j : Nat) : Nat → Int
  | 0 => 0
  | 1 => byteI s (4 * j)
  | 2 => bits .or .u32 (byteI s (4 * j)) (byteI s (4 * j + 1) * 256 % 4294967296)
  | 3 => bits .or .u32 (bits .or .u32 (byteI s (4 * j)) (byteI s (4 * j + 1) * 256 % 4294967296)) (byteI s (4 * j + 2) * 65536 % 4294967296)
  | _ => wordAt s j
def refW (s : Bytes) (k : Nat) : List Int := (List.range 16).map fun j => pW s j (k - 4 * j)
theorem refW_length (s : Bytes) (k : Nat) : (refW s k).length = 16 := by simp [refW]
theorem refW_zero (s : Bytes) : refW s 0 = List.replicate 16 0 := by
  simp [refW, pW, List.map_const']
theorem pW_four (s : Bytes) (j n : Nat) (h : 4 ≤ n) : pW s j n = wordAt s j := by
  match n, h with
  | n + 4, _ => rfl
theorem refW_all (s : Bytes) : refW s 64 = words s := by
  apply List.map_congr_left
  intro j hj
  have := List.mem_range.1 hj
  exact pW_four s j _ (by omega)
theorem refW_at (s : Bytes) (q r : Nat) (hq : q < 16) (_hr : r < 4) : (refW s (4 * q + r)).getD q 0 = pW s q r := by
  simp [refW, List.getD, hq]
theorem refW_succ (s : Bytes) (q r : Nat) (_hq : q < 16) (hr : r < 4) : (refW s (4 * q + r)).set q (pW s q (r + 1)) = refW s (4 * q + r + 1) := by
  apply List.ext_getElem
  · simp [refW]
  · intro j h1 h2
    simp only [refW, List.getElem_set, List.getElem_map, List.getElem_range]
    by_cases h : q = j
    · subst h
      rw [if_pos rfl, show 4 * q + r + 1 - 4 * q = r + 1 by omega]
    · rw [if_neg h]
      rcases Nat.lt_or_ge j q with hj | hj
      · rw [pW_four s j _ (by omega), pW_four s j _ (by omega)]
      · rw [show 4 * q + r - 4 * j = 0 by omega, show 4 * q + r + 1 - 4 * j = 0 by omega]
theorem byteI_range (s : Bytes) (i : Nat) : 0 ≤ byteI s i ∧ byteI s i < 4294967296 := by unfold byteI; omega

theorem byteI_get (s : Bytes) (k : Nat) (h : k < s.length) : (s[k].toNat : Int) % 4294967296 = byteI s k := by simp [byteI, h]
theorem pW_0 (s : Bytes) (q k : Nat) (hk : k = 4 * q + 0) (h : k < s.length) : bits .or .u32 (pW s q 0) ((s[k].toNat : Int) % 4294967296) = pW s q 1 := by
  rw [byteI_get s k h, hk]
  exact or_zero32 _ (byteI_range _ _).1 (byteI_range _ _).2
theorem pW_1 (s : Bytes) (q k : Nat) (hk : k = 4 * q + 1) (h : k < s.length) : bits .or .u32 (pW s q 1) ((s[k].toNat : Int) % 4294967296 * 256 % 4294967296) = pW s q 2 := by
  rw [byteI_get s k h, hk]; rfl
theorem pW_2 (s : Bytes) (q k : Nat) (hk : k = 4 * q + 2) (h : k < s.length) : bits .or .u32 (pW s q 2) ((s[k].toNat : Int) % 4294967296 * 65536 % 4294967296) = pW s q 3 := by
  rw [byteI_get s k h, hk]; rfl
theorem pW_3 (s : Bytes) (q k : Nat) (hk : k = 4 * q + 3) (h : k < s.length) : bits .or .u32 (pW s q 3) ((s[k].toNat : Int) % 4294967296 * 16777216 % 4294967296) = pW s q 4 := by
  rw [byteI_get s k h, hk]; rfl

/-- The vector filled from two rows. -/
def vFill (hs : List Int) (k : Nat) : List Int := (List.range 16).map fun j => if j < 8 then (if j < k then hs.getD j 0 else 0) else (if j - 8 < k then blkIV.getD (j - 8) 0 else 0)
theorem vFill_length (hs : List Int) (k : Nat) : (vFill hs k).length = 16 := by simp [vFill]
theorem vFill_zero (hs : List Int) : vFill hs 0 = List.replicate 16 0 := by simp [vFill, List.map_const']
theorem vFill_succ (hs : List Int) (k : Nat) (hk : k < 8) : ((vFill hs k).set k (hs.getD k 0)).set (k + 8) (blkIV.getD k 0) = vFill hs (k + 1) := by
  apply List.ext_getElem
  · simp [vFill]
  · intro j h1 h2
    simp only [vFill, List.getElem_set, List.getElem_map, List.getElem_range]
    by_cases h : k + 8 = j
    · subst h
      rw [if_pos rfl, if_neg (by omega), if_pos (by omega), show k + 8 - 8 = k by omega]
    · rw [if_neg h]
      by_cases h' : k = j
      · subst h'
        rw [if_pos rfl, if_pos hk, if_pos (by omega)]
      · rw [if_neg h']
        by_cases hj : j < 8
        · rw [if_pos hj, if_pos hj]
          by_cases hjk : j < k
          · rw [if_pos hjk, if_pos (by omega)]
          · rw [if_neg hjk, if_neg (by omega)]
        · rw [if_neg hj, if_neg hj]
          by_cases hjk : j - 8 < k
          · rw [if_pos hjk, if_pos (by omega)]
          · rw [if_neg hjk, if_neg (by omega)]
theorem vFill_all (hs : List Int) (h : hs.length = 8) : vFill hs 8 = hs ++ blkIV := by
  obtain ⟨a, b, c, d, e, f, g, i, rfl⟩ := list8 h
  rfl

/-- The reference's permutations. -/
def refPerms : List Bytes := [[48, 49, 50, 51, 52, 53, 54, 55, 56, 57, 97, 98, 99, 100, 101, 102], [101, 97, 52, 56, 57, 102, 100, 54, 49, 99, 48, 50, 98, 55, 53, 51], [98, 56, 99, 48, 53, 50, 102, 100, 97, 101, 51, 54, 55, 49, 57, 52], [55, 57, 51, 49, 100, 99, 98, 101, 50, 54, 53, 97, 52, 48, 102, 56], [57, 48, 53, 55, 50, 52, 97, 102, 101, 49, 98, 99, 54, 56, 51, 100], [50, 99, 54, 97, 48, 98, 56, 51, 52, 100, 55, 53, 102, 101, 49, 57], [99, 53, 49, 102, 101, 100, 52, 97, 48, 55, 54, 51, 57, 50, 56, 98], [100, 98, 55, 101, 99, 49, 51, 57, 53, 48, 102, 52, 56, 54, 50, 97], [54, 102, 101, 57, 98, 51, 48, 56, 99, 50, 100, 55, 49, 52, 97, 53], [97, 50, 56, 52, 55, 54, 49, 53, 102, 98, 57, 101, 51, 99, 100, 48]]
def refPerm (r : Nat) : Bytes := refPerms.getD r []
def digitP (c : Nat) : Nat := if 97 ≤ c then c - 87 else c - 48
theorem refPerm_length (r : Nat) (h : r < 10) : (refPerm r).length = 16 := by revert r; decide
theorem digitP_at (r i : Nat) (hr : r < 10) (hi : i < 16) : digitP ((refPerm r).getD i 0).toNat = sigma r i ∧ 48 ≤ ((refPerm r).getD i 0).toNat ∧ ((refPerm r).getD i 0).toNat ≤ 102 := by
  revert i; revert r; decide

set_option maxRecDepth 100000 in
theorem ref04_permutation (r : Nat) (hr : r < 10) (w : World) : Calls Tryz.prog 172 #[.int .i64 r] w fun e w' => e = .returned (S (refPerm r)) ∧ Below w.heap.size w w' := by
  match r, hr with
  | 0, _ => go_enter Tryz.func172, Tryz.ntmps172; go_wp2; go_ret; exact ⟨rfl, Below.refl _ _⟩
  | 1, _ => go_enter Tryz.func172, Tryz.ntmps172; go_wp2; go_ret; exact ⟨rfl, Below.refl _ _⟩
  | 2, _ => go_enter Tryz.func172, Tryz.ntmps172; go_wp2; go_ret; exact ⟨rfl, Below.refl _ _⟩
  | 3, _ => go_enter Tryz.func172, Tryz.ntmps172; go_wp2; go_ret; exact ⟨rfl, Below.refl _ _⟩
  | 4, _ => go_enter Tryz.func172, Tryz.ntmps172; go_wp2; go_ret; exact ⟨rfl, Below.refl _ _⟩
  | 5, _ => go_enter Tryz.func172, Tryz.ntmps172; go_wp2; go_ret; exact ⟨rfl, Below.refl _ _⟩
  | 6, _ => go_enter Tryz.func172, Tryz.ntmps172; go_wp2; go_ret; exact ⟨rfl, Below.refl _ _⟩
  | 7, _ => go_enter Tryz.func172, Tryz.ntmps172; go_wp2; go_ret; exact ⟨rfl, Below.refl _ _⟩
  | 8, _ => go_enter Tryz.func172, Tryz.ntmps172; go_wp2; go_ret; exact ⟨rfl, Below.refl _ _⟩
  | 9, _ => go_enter Tryz.func172, Tryz.ntmps172; go_wp2; go_ret; exact ⟨rfl, Below.refl _ _⟩

set_option maxRecDepth 100000 in
theorem ref04_digit (c : Nat) (h0 : 48 ≤ c) (h1 : c ≤ 102) (w : World) : Calls Tryz.prog 175 #[.int .u8 c] w fun e w' => e = .returned (.int .i64 (digitP c : Nat)) ∧ Below w.heap.size w w' := by
  have hw1 : IntKind.i64.wrap (c : Int) = c := IntWalk.i64_in _ (by omega)
  by_cases h : 97 ≤ c
  · have hd : decide (97 ≤ (c : Int)) = true := by simp; omega
    have Hp := Lib.hid (show (digitP c : Int) = (c : Int) - 87 by rw [digitP, if_pos h]; omega)
    go_enter Tryz.func175, Tryz.ntmps175
    go_wp2
    go_ret
    exact ⟨ret_i Hp.out.symm, Below.refl _ _⟩
  · have hd : decide (97 ≤ (c : Int)) = false := by simp; omega
    have Hp := Lib.hid (show (digitP c : Int) = (c : Int) - 48 by rw [digitP, if_neg h]; omega)
    go_enter Tryz.func175, Tryz.ntmps175
    go_wp2
    go_ret
    exact ⟨ret_i Hp.out.symm, Below.refl _ _⟩

set_option maxRecDepth 100000 in
theorem ref04_Initial (w : World) : Calls Tryz.prog 152 #[] w fun e w' => e = .returned (.agg (row blkIV)) ∧ Below w.heap.size w w' := by
  go_enter Tryz.func152, Tryz.ntmps152
  go_wp2
  refine bodyPost_ret (results_cell_row rfl _ _ w.heap.size _ (row blkIV) (0, 0) _ rfl (heap_alloc_new w (.cells (row blkIV) 101)) Tryz.underlying101 rfl (by kernel_rfl)) rfl ⟨rfl, ?_⟩
  exact (Below.refl _ _).alloc (Nat.le_refl _) _

def quadZ : Array Value := #[.int .i64 0, .int .i64 0, .int .i64 0, .int .i64 0]
theorem quad_small (k : Nat) (h : k < 4) : quad k = (k, k + 4, k + 8, k + 12) := by revert k; decide
theorem quad_great (k : Nat) (h : k < 4) : quad (k + 4) = (k, 4 + (k + 1) % 4, 8 + (k + 2) % 4, 12 + (k + 3) % 4) := by revert k; decide

set_option maxRecDepth 100000 in
set_option maxHeartbeats 400000 in
theorem ref04_columns (k : Nat) (hk : k < 8) (w : World) : Calls Tryz.prog 173 #[.int .i64 k] w fun e w' => e = .returned (quadV (quad k)) ∧ Below w.heap.size w w' := by
  by_cases h : k < 4
  · have Hq := Lib.hid (quad_small k h)
    have hz := heap_alloc_new w (.cells quadZ 122)
    have hi4 : (Tryz.prog.info? 122).map (·.size) = some (#[.int .i64 k, .int .i64 ((k : Int) + 4), .int .i64 ((k : Int) + 8), .int .i64 ((k : Int) + 12)] : Array Value).size := by kernel_rfl
    have ho4 : (#[.int .i64 k, .int .i64 ((k : Int) + 4), .int .i64 ((k : Int) + 8), .int .i64 ((k : Int) + 12)] : Array Value).all (·.oneCell') = true := by simp [Value.oneCell']
    go_enter Tryz.func173, Tryz.ntmps173
    go_wp2_with (refine wpList_store_row rfl 122 _ _ rfl w.heap.size #[.int .i64 k, .int .i64 ((k : Int) + 4), .int .i64 ((k : Int) + 8), .int .i64 ((k : Int) + 12)] rfl rfl 122 quadZ hz hi4 rfl ho4 ?_)
    refine bodyPost_ret (results_cell_row rfl _ _ w.heap.size _ #[.int .i64 k, .int .i64 ((k : Int) + 4), .int .i64 ((k : Int) + 8), .int .i64 ((k : Int) + 12)] (0, 0) _ rfl (setRow_heap _ _ _ _ _ _ hz) Tryz.underlying122 rfl hi4) rfl ⟨by rw [Hq.out]; rfl, below_setRow ((Below.refl _ _).alloc (Nat.le_refl _) _) (Nat.le_refl _) _⟩
  · obtain ⟨q, rfl⟩ : ∃ q, k = q + 4 := ⟨k - 4, by omega⟩
    have Hq := Lib.hid (quad_great q (by omega))
    have hz := heap_alloc_new w (.cells quadZ 122)
    have hs : ((q + 4 : Nat) : Int) = (q : Int) + 4 := by omega
    rw [hs]
    clear hs
    have hi4 : (Tryz.prog.info? 122).map (·.size) = some (#[.int .i64 q, .int .i64 (4 + ((q : Int) + 1) % 4), .int .i64 (8 + ((q : Int) + 2) % 4), .int .i64 (12 + ((q : Int) + 3) % 4)] : Array Value).size := by kernel_rfl
    have ho4 : (#[.int .i64 q, .int .i64 (4 + ((q : Int) + 1) % 4), .int .i64 (8 + ((q : Int) + 2) % 4), .int .i64 (12 + ((q : Int) + 3) % 4)] : Array Value).all (·.oneCell') = true := by simp [Value.oneCell']
    go_enter Tryz.func173, Tryz.ntmps173
    go_wp2_with (refine wpList_store_row rfl 122 _ _ rfl w.heap.size #[.int .i64 q, .int .i64 (4 + ((q : Int) + 1) % 4), .int .i64 (8 + ((q : Int) + 2) % 4), .int .i64 (12 + ((q : Int) + 3) % 4)] rfl rfl 122 quadZ hz hi4 rfl ho4 ?_)
    refine bodyPost_ret (results_cell_row rfl _ _ w.heap.size _ #[.int .i64 q, .int .i64 (4 + ((q : Int) + 1) % 4), .int .i64 (8 + ((q : Int) + 2) % 4), .int .i64 (12 + ((q : Int) + 3) % 4)] (0, 0) _ rfl (setRow_heap _ _ _ _ _ _ hz) Tryz.underlying122 rfl hi4) rfl ⟨by rw [Hq.out]; rfl, below_setRow ((Below.refl _ _).alloc (Nat.le_refl _) _) (Nat.le_refl _) _⟩
end Go.Proofs.YtcbmdghnlbieeaaGreatDoor
namespace Go.Proofs.YtcbmdghnlbieeaaGreatDoor
open Go.RowKit

/-- The reference's memory at first: the words taken in, the result, the message. -/
structure Rm0 (w : World) (hs m : List Int) (X : World) : Prop where
  below : Below w.heap.size w X
  size : w.heap.size + 1 + 1 < X.heap.size
  b0 : X.heap[w.heap.size]? = some (.cells (row hs) 101 (0, 0))
  b1 : X.heap[w.heap.size + 1]? = some (.cells (row (List.replicate 8 0)) 101 (0, 0))
  b2 : X.heap[w.heap.size + 1 + 1]? = some (.cells (row m) 118 (0, 0))
/-- .. then: the first words, the vector. -/
structure Rm (w : World) (BI BV : Nat) (hs m v : List Int) (X : World) : Prop extends Rm0 w hs m X where
  lo : w.heap.size + 1 + 1 < BI
  mid : BI < BV
  hi : BV < X.heap.size
  bi : X.heap[BI]? = some (.cells (row blkIV) 101 (0, 0))
  bv : X.heap[BV]? = some (.cells (row v) 118 (0, 0))

section
variable {w X X' : World} {BI BV : Nat} {hs m v : List Int}
theorem Rm0.start (w : World) (hs : List Int) : Rm0 w hs (List.replicate 16 0) (((w.alloc (.cells (row hs) 101)).alloc (.cells (row (List.replicate 8 0)) 101)).alloc (.cells (row (List.replicate 16 0)) 118)) := by
  refine ⟨(((Below.refl _ _).alloc (Nat.le_refl _) _).alloc (by simp) _).alloc (by simp; omega) _, by simp, ?_, ?_, ?_⟩
  · exact (Below.heap_alloc _ _ _ (by simp; omega)).trans ((Below.heap_alloc _ _ _ (by simp)).trans (heap_alloc_new _ _))
  · exact (Below.heap_alloc _ _ _ (by simp)).trans (heap_at (by simp) _)
  · exact heap_at (by simp) _
theorem Rm0.pass (h : Rm0 w hs m X) (hb : Below X.heap.size X X') : Rm0 w hs m X' := by
  have := h.size
  exact ⟨h.below.trans (hb.mono h.below.size), by have := hb.size; omega, (hb.block _ (by omega)).trans h.b0, (hb.block _ (by omega)).trans h.b1, (hb.block _ (by omega)).trans h.b2⟩
theorem Rm0.set2 (h : Rm0 w hs m X) (i : Nat) (x : Int) : Rm0 w hs (m.set i x) (X.setCell ⟨w.heap.size + 1 + 1, i, none⟩ (.int .u32 x)) := by
  have o : ∀ k, k ≠ w.heap.size + 1 + 1 → (X.setCell ⟨w.heap.size + 1 + 1, i, none⟩ (.int .u32 x)).heap[k]? = X.heap[k]? := fun k hk => Below.heap_setCell _ _ _ _ hk
  exact ⟨h.below.setCell (by show w.heap.size ≤ w.heap.size + 1 + 1; omega) _, by simpa [World.setCell] using h.size, (o _ (by omega)).trans h.b0, (o _ (by omega)).trans h.b1, heap_setCell _ h.b2⟩
theorem Rm.pass (h : Rm w BI BV hs m v X) (hb : Below X.heap.size X X') : Rm w BI BV hs m v X' := by
  have := h.hi
  have := h.mid
  exact ⟨h.toRm0.pass hb, h.lo, h.mid, by have := hb.size; omega, (hb.block _ (by omega)).trans h.bi, (hb.block _ (by omega)).trans h.bv⟩
theorem Rm.alloc (h : Rm w BI BV hs m v X) (o : Obj) : Rm w BI BV hs m v (X.alloc o) := h.pass ((Below.refl _ _).alloc (Nat.le_refl _) o)
theorem Rm.set0 (h : Rm w BI BV hs m v X) (i : Nat) (x : Int) : Rm w BI BV (hs.set i x) m v (X.setCell ⟨w.heap.size, i, none⟩ (.int .u32 x)) := by
  have h1 := h.lo
  have h2 := h.mid
  have o : ∀ k, k ≠ w.heap.size → (X.setCell ⟨w.heap.size, i, none⟩ (.int .u32 x)).heap[k]? = X.heap[k]? := fun k hk => Below.heap_setCell _ _ _ _ hk
  exact ⟨⟨h.below.setCell (Nat.le_refl _) _, by simpa [World.setCell] using h.size, heap_setCell _ h.b0, (o _ (by omega)).trans h.b1, (o _ (by omega)).trans h.b2⟩, h.lo, h.mid, by simpa [World.setCell] using h.hi, (o _ (by omega)).trans h.bi, (o _ (by omega)).trans h.bv⟩
theorem Rm.setv (h : Rm w BI BV hs m v X) (i : Nat) (x : Int) : Rm w BI BV hs m (v.set i x) (X.setCell ⟨BV, i, none⟩ (.int .u32 x)) := by
  have h1 := h.lo
  have h2 := h.mid
  have o : ∀ k, k ≠ BV → (X.setCell ⟨BV, i, none⟩ (.int .u32 x)).heap[k]? = X.heap[k]? := fun k hk => Below.heap_setCell _ _ _ _ hk
  exact ⟨⟨h.below.setCell (by show w.heap.size ≤ BV; omega) _, by simpa [World.setCell] using h.size, (o _ (by omega)).trans h.b0, (o _ (by omega)).trans h.b1, (o _ (by omega)).trans h.b2⟩, h.lo, h.mid, by simpa [World.setCell] using h.hi, (o _ (by omega)).trans h.bi, heap_setCell _ h.bv⟩
theorem Rm.rowv {v' : List Int} (h : Rm w BI BV hs m v X) : Rm w BI BV hs m v' (X.setRow BV (row v')) := by
  have h1 := h.lo
  have h2 := h.mid
  have o : ∀ k, k ≠ BV → (X.setRow BV (row v')).heap[k]? = X.heap[k]? := fun k hk => setRow_other _ _ _ _ hk
  exact ⟨⟨below_setRow h.below (by omega) _, by simpa using h.size, (o _ (by omega)).trans h.b0, (o _ (by omega)).trans h.b1, (o _ (by omega)).trans h.b2⟩, h.lo, h.mid, by simpa using h.hi, (o _ (by omega)).trans h.bi, setRow_heap _ _ _ _ _ _ h.bv⟩
theorem Rm.start (h : Rm0 w hs m X) : Rm w X.heap.size (X.heap.size + 1) hs m (List.replicate 16 0) ((X.alloc (.cells (row blkIV) 101)).alloc (.cells (row (List.replicate 16 0)) 118)) := by
  refine ⟨h.pass (((Below.refl _ _).alloc (Nat.le_refl _) _).alloc (by simp) _), h.size, by omega, by simp, ?_, ?_⟩
  · exact (Below.heap_alloc _ _ _ (by simp)).trans (heap_alloc_new _ _)
  · exact heap_at (by simp) _
end

set_option maxRecDepth 100000 in
set_option maxHeartbeats 1500000 in
theorem ref04_Compress (hs : List Int) (hh : hs.length = 8) (s : Bytes) (hsl : s.length = 64) (count : Int) (last : Bool) (w : World) :
    Calls Tryz.prog 153 #[.agg (row hs), S s, .int .u64 count, .bool last] w fun e w' => e = .returned (.tuple #[.agg (row (compressP hs s count last)), .int .i64 0]) ∧ Below w.heap.size w w' := by
  obtain ⟨h0, h1, h2, h3, h4, h5, h6, h7, rfl⟩ := list8 hh
  rw [show row [h0, h1, h2, h3, h4, h5, h6, h7] = #[.int .u32 h0, .int .u32 h1, .int .u32 h2, .int .u32 h3, .int .u32 h4, .int .u32 h5, .int .u32 h6, .int .u32 h7] from rfl]
  have hsz : (s.length : Int) = 64 := by omega
  clear hh
  have Hst := Lib.hid (show Rm0 w [h0, h1, h2, h3, h4, h5, h6, h7] (refW s 0) _ by rw [refW_zero]; exact Rm0.start w [h0, h1, h2, h3, h4, h5, h6, h7])
  go_enter Tryz.func153, Tryz.ntmps153
  go_wp2_with fail
  go_loopw [11] (fun s11 wr => ∃ (k : Nat), k ≤ 64 ∧ s11 = .int .i64 k ∧ Rm0 w [h0, h1, h2, h3, h4, h5, h6, h7] (refW s k) wr) (fun i _ => 64 - (intOf i).toNat)
  case atStart => exact ⟨0, Nat.zero_le _, rfl, Hst.out⟩
  case round =>
    clear Hst
    obtain ⟨k, hk, rfl, hm⟩ := hrel
    by_cases hlt : k < 64
    · obtain ⟨q, r, hq, hr, hkq⟩ : ∃ q r, q < 16 ∧ r < 4 ∧ k = 4 * q + r := ⟨k / 4, k % 4, by omega, by omega, by omega⟩
      have hdiv : (k : Int) / 4 = (q : Int) := by omega
      have hqi : (q : Int) < 16 := by omega
      have Hw := Lib.hid (show (refW s k).set q (pW s q (r + 1)) = refW s (k + 1) by rw [hkq]; exact refW_succ s q r hq hr)
      have hcell := cell_of_row wr _ q _ _ _ hm.b2
      rw [row_at (by rw [refW_length]; exact hq), show (refW s k).getD q 0 = pW s q r by rw [hkq]; exact refW_at s q r hq hr] at hcell
      have Hkq := Lib.hid hkq
      clear hkq
      obtain ⟨a, ha⟩ : ∃ a, pW s q r = a := ⟨_, rfl⟩
      rw [ha] at hcell
      have Ha := Lib.hid ha
      clear ha
      have Hm := Lib.hid hm
      clear hm
      have hx0 := run_at Tryz.underlying9 s (k : Int) k rfl (by omega)
      rcases (show r = 0 ∨ r = 1 ∨ r = 2 ∨ r = 3 by omega) with rfl | rfl | rfl | rfl
      · have hmod : (k : Int) % 4 = 0 := by have := Hkq.out; omega
        go_wp2_with fail
        have g := cell_regrown hcell
        refine wp_region_below_tail 17 (by kernel_rfl) (by kernel_rfl) ?_
        simp only [List.take_succ_cons, List.take_zero, List.drop_succ_cons, List.drop_zero]
        repeat (go_big_quiet_step ((fail)))
        refine wpQuiet_nil ?_
        intro X1 hwq
        have hbt : Below (wr).heap.size (wr) X1 := by
          obtain ⟨pq, rfl⟩ := hwq
          exact below_regrown _ _ _
        clear hwq
        have hMt := Hm.out.pass hbt
        have g1 := hbt.cell (p := ⟨w.heap.size + 1 + 1, q, none⟩) (show w.heap.size + 1 + 1 < _ from Hm.out.size)
        rw [hcell] at g1
        have g2 := frozen_of_row X1 _ q _ _ hMt.b2
        have HMt := Lib.hid hMt
        clear hMt hbt g
        go_wp2
        go_roundw
        case rel => exact ⟨k + 1, by omega, by go_num, by rw [← Hw.out, ← pW_0 s q k Hkq.out (by omega), Ha.out]; exact HMt.out.set2 q _⟩
        case measure => simp [intOf]; omega
      · have hmod : (k : Int) % 4 = 1 := by have := Hkq.out; omega
        go_wp2_with fail
        have g := cell_regrown hcell
        refine wp_region_below_tail 17 (by kernel_rfl) (by kernel_rfl) ?_
        simp only [List.take_succ_cons, List.take_zero, List.drop_succ_cons, List.drop_zero]
        repeat (go_big_quiet_step ((fail)))
        refine wpQuiet_nil ?_
        intro X1 hwq
        have hbt : Below (wr).heap.size (wr) X1 := by
          obtain ⟨pq, rfl⟩ := hwq
          exact below_regrown _ _ _
        clear hwq
        have hMt := Hm.out.pass hbt
        have g1 := hbt.cell (p := ⟨w.heap.size + 1 + 1, q, none⟩) (show w.heap.size + 1 + 1 < _ from Hm.out.size)
        rw [hcell] at g1
        have g2 := frozen_of_row X1 _ q _ _ hMt.b2
        have HMt := Lib.hid hMt
        clear hMt hbt g
        go_wp2
        go_roundw
        case rel => exact ⟨k + 1, by omega, by go_num, by rw [← Hw.out, ← pW_1 s q k Hkq.out (by omega), Ha.out]; exact HMt.out.set2 q _⟩
        case measure => simp [intOf]; omega
      · have hmod : (k : Int) % 4 = 2 := by have := Hkq.out; omega
        go_wp2_with fail
        have g := cell_regrown hcell
        refine wp_region_below_tail 17 (by kernel_rfl) (by kernel_rfl) ?_
        simp only [List.take_succ_cons, List.take_zero, List.drop_succ_cons, List.drop_zero]
        repeat (go_big_quiet_step ((fail)))
        refine wpQuiet_nil ?_
        intro X1 hwq
        have hbt : Below (wr).heap.size (wr) X1 := by
          obtain ⟨pq, rfl⟩ := hwq
          exact below_regrown _ _ _
        clear hwq
        have hMt := Hm.out.pass hbt
        have g1 := hbt.cell (p := ⟨w.heap.size + 1 + 1, q, none⟩) (show w.heap.size + 1 + 1 < _ from Hm.out.size)
        rw [hcell] at g1
        have g2 := frozen_of_row X1 _ q _ _ hMt.b2
        have HMt := Lib.hid hMt
        clear hMt hbt g
        go_wp2
        go_roundw
        case rel => exact ⟨k + 1, by omega, by go_num, by rw [← Hw.out, ← pW_2 s q k Hkq.out (by omega), Ha.out]; exact HMt.out.set2 q _⟩
        case measure => simp [intOf]; omega
      · have hmod : (k : Int) % 4 = 3 := by have := Hkq.out; omega
        go_wp2_with fail
        have g := cell_regrown hcell
        refine wp_region_below_tail 17 (by kernel_rfl) (by kernel_rfl) ?_
        simp only [List.take_succ_cons, List.take_zero, List.drop_succ_cons, List.drop_zero]
        repeat (go_big_quiet_step ((fail)))
        refine wpQuiet_nil ?_
        intro X1 hwq
        have hbt : Below (wr).heap.size (wr) X1 := by
          obtain ⟨pq, rfl⟩ := hwq
          exact below_regrown _ _ _
        clear hwq
        have hMt := Hm.out.pass hbt
        have g1 := hbt.cell (p := ⟨w.heap.size + 1 + 1, q, none⟩) (show w.heap.size + 1 + 1 < _ from Hm.out.size)
        rw [hcell] at g1
        have g2 := frozen_of_row X1 _ q _ _ hMt.b2
        have HMt := Lib.hid hMt
        clear hMt hbt g
        go_wp2
        go_roundw
        case rel => exact ⟨k + 1, by omega, by go_num, by rw [← Hw.out, ← pW_3 s q k Hkq.out (by omega), Ha.out]; exact HMt.out.set2 q _⟩
        case measure => simp [intOf]; omega
    · have hke : k = 64 := by omega
      subst hke
      rw [refW_all] at hm
      have Hm := Lib.hid hm
      clear hm
      go_wp2_with fail
      refine (ref04_Initial _).mono ?_
      rintro e w1 ⟨rfl, hb1⟩
      have hn1 := hb1.size
      have Hm1 := Lib.hid (Hm.out.pass hb1)
      clear hb1 Hm
      rw [show row blkIV = #[.int .u32 1779033703, .int .u32 3144134277, .int .u32 1013904242, .int .u32 2773480762, .int .u32 1359893119, .int .u32 2600822924, .int .u32 528734635, .int .u32 1541459225] from rfl]
      go_wp2_with fail
      have hmX : Rm w w1.heap.size (w1.heap.size + 1) [h0, h1, h2, h3, h4, h5, h6, h7] (words s) (vFill [h0, h1, h2, h3, h4, h5, h6, h7] 0) ((w1.alloc (.cells (row blkIV) 101)).alloc (.cells (row (List.replicate 16 0)) 118)) := by
        rw [vFill_zero]; exact Rm.start Hm1.out
      have HmX := Lib.hid hmX
      clear hmX Hm1
      obtain ⟨BI, hBI⟩ : ∃ BI, w1.heap.size = BI := ⟨_, rfl⟩
      rw [hBI] at HmX ⊢
      have Hlo := Lib.hid HmX.out.lo
      clear hBI hn1
      go_loopw [14] (fun s14 wr => ∃ k : Nat, k ≤ 8 ∧ s14 = .int .i64 k ∧ Rm w BI (BI + 1) [h0, h1, h2, h3, h4, h5, h6, h7] (words s) (vFill [h0, h1, h2, h3, h4, h5, h6, h7] k) wr) (fun i _ => 8 - (intOf i).toNat)
      case atStart => exact ⟨0, Nat.zero_le _, rfl, HmX.out⟩
      case round =>
        clear HmX
        obtain ⟨k, hk, rfl, hm⟩ := hrel
        by_cases hltk : k < 8
        · have c1 := (cell_of_row wr _ k _ _ _ hm.b0).trans (row_at (l := [h0, h1, h2, h3, h4, h5, h6, h7]) hltk)
          have c2 := (cell_of_row wr _ k _ _ _ hm.bi).trans (row_at (l := blkIV) hltk)
          have c3 := (cell_of_row wr _ k _ _ _ hm.bv).trans (row_at (by rw [vFill_length]; omega))
          have c4 := (cell_of_row wr _ (k + 8) _ _ _ hm.bv).trans (row_at (by rw [vFill_length]; omega))
          have f3 := frozen_of_row wr _ k _ _ hm.bv
          have f4 := frozen_of_row wr _ (k + 8) _ _ hm.bv
          have Hvs := Lib.hid (vFill_succ [h0, h1, h2, h3, h4, h5, h6, h7] k hltk)
          have Hm := Lib.hid hm
          clear hm
          generalize List.getD [h0, h1, h2, h3, h4, h5, h6, h7] k 0 = x0 at c1 Hvs
          generalize blkIV.getD k 0 = x1 at c2 Hvs
          generalize List.getD (vFill [h0, h1, h2, h3, h4, h5, h6, h7] k) k 0 = x2 at c3
          generalize List.getD (vFill [h0, h1, h2, h3, h4, h5, h6, h7] k) (k + 8) 0 = x3 at c4
          go_wp2
          go_roundw
          case rel => exact ⟨k + 1, by omega, by go_num, by rw [← Hvs.out]; exact (Hm.out.setv k _).setv (k + 8) _⟩
          case measure => simp [intOf]; omega
        · have hke : k = 8 := by omega
          subst hke
          rw [vFill_all _ rfl] at hm
          have c12 : wr.cell? ⟨BI + 1, 12, none⟩ = some (.int .u32 1359893119) := (cell_of_row wr _ 12 _ _ _ hm.bv).trans rfl
          have c13 : wr.cell? ⟨BI + 1, 13, none⟩ = some (.int .u32 2600822924) := (cell_of_row wr _ 13 _ _ _ hm.bv).trans rfl
          have c14 : wr.cell? ⟨BI + 1, 14, none⟩ = some (.int .u32 528734635) := (cell_of_row wr _ 14 _ _ _ hm.bv).trans rfl
          have f12 := frozen_of_row wr _ 12 _ _ hm.bv
          have f13 := frozen_of_row wr _ 13 _ _ hm.bv
          have f14 := frozen_of_row wr _ 14 _ _ hm.bv
          have Hm := Lib.hid hm
          clear hm
          cases last with
          | true =>
            go_wp2_with fail
            obtain ⟨v0, hv0⟩ : ∃ v0, vInit [h0, h1, h2, h3, h4, h5, h6, h7] count true = v0 := ⟨_, rfl⟩
            have Hv0 := Lib.hid hv0
            clear hv0
            have hlv : v0.length = 16 := by rw [← Hv0.out]; exact vInit_length _ rfl _ _
            clear c12 c13 c14 f12 f13 f14
            go_loopw [15] (fun s15 wr => ∃ r : Nat, r ≤ 10 ∧ s15 = .int .i64 r ∧ Rm w BI (BI + 1) [h0, h1, h2, h3, h4, h5, h6, h7] (words s) (roundsP (words s) r v0) wr) (fun i _ => 10 - (intOf i).toNat)
            case atStart => exact ⟨0, Nat.zero_le _, rfl, by show Rm w BI (BI + 1) _ (words s) v0 _; rw [← Hv0.out]; exact ((Hm.out.setv 12 _).setv 13 _).setv 14 _⟩
            case round =>
              clear Hm
              obtain ⟨r, hr, rfl, hmr⟩ := hrel
              by_cases hltr : r < 10
              · obtain ⟨vr, hvr⟩ : ∃ vr, roundsP (words s) r v0 = vr := ⟨_, rfl⟩
                have Hvr := Lib.hid hvr
                rw [hvr] at hmr
                clear hvr
                have hlr : vr.length = 16 := by rw [← Hvr.out, roundsP_length, hlv]
                have Hmr := Lib.hid hmr
                clear hmr
                go_wp2_with fail
                refine (ref04_permutation r hltr _).mono ?_
                rintro e w4 ⟨rfl, hb4⟩
                have Hm4 := Lib.hid (Hmr.out.pass hb4)
                clear Hmr hb4
                have hPl := refPerm_length r hltr
                have Hdig := Lib.hid (fun i hi => digitP_at r i hltr hi)
                generalize refPerm r = P at hPl Hdig ⊢
                go_wp2_with fail
                go_loopw [17] (fun s17 wr => ∃ k : Nat, k ≤ 8 ∧ s17 = .int .i64 k ∧ Rm w BI (BI + 1) [h0, h1, h2, h3, h4, h5, h6, h7] (words s) (stepsP (words s) r k vr) wr) (fun i _ => 8 - (intOf i).toNat)
                case atStart => exact ⟨0, Nat.zero_le _, rfl, Hm4.out⟩
                case round =>
                  clear Hm4
                  obtain ⟨k, hk, rfl, hmk⟩ := hrel
                  by_cases hltk : k < 8
                  · have Hmk := Lib.hid hmk
                    clear hmk
                    go_wp2_with fail
                    refine (ref04_columns k hltk _).mono ?_
                    rintro e w5 ⟨rfl, hb5⟩
                    have Hm5 := Lib.hid (Hmk.out.pass hb5)
                    clear Hmk hb5
                    obtain ⟨qa, qb, qc, qd, hq⟩ : ∃ qa qb qc qd, quad k = (qa, qb, qc, qd) := ⟨_, _, _, _, rfl⟩
                    have hqo := quad_ok k hltk
                    have hst : stepP (words s) r k (stepsP (words s) r k vr) = mixP (stepsP (words s) r k vr) qa qb qc qd ((words s).getD (sigma r (2 * k)) 0) ((words s).getD (sigma r (2 * k + 1)) 0) := by rw [stepP, hq]
                    rw [hq] at hqo ⊢
                    rw [show quadV (qa, qb, qc, qd) = .agg #[.int .i64 qa, .int .i64 qb, .int .i64 qc, .int .i64 qd] from rfl]
                    have Hap := Lib.hid (show Apart 16 qa qb qc qd from ⟨hqo.1, hqo.2.1, hqo.2.2.1, hqo.2.2.2.1, hqo.2.2.2.2.1, hqo.2.2.2.2.2.1, hqo.2.2.2.2.2.2.1, hqo.2.2.2.2.2.2.2.1, hqo.2.2.2.2.2.2.2.2.1, hqo.2.2.2.2.2.2.2.2.2⟩)
                    clear hq hqo
                    have hs1 := sigma_ok r (2 * k) hltr (by omega)
                    have hs2 := sigma_ok r (2 * k + 1) hltr (by omega)
                    obtain ⟨hd1, hd1a, hd1b⟩ := Hdig.out (2 * k) (by omega)
                    obtain ⟨hd2, hd2a, hd2b⟩ := Hdig.out (2 * k + 1) (by omega)
                    have hx1 := run_at Tryz.underlying9 P (2 * (k : Int)) (2 * k) (by omega) (by omega)
                    have hx2 := run_at Tryz.underlying9 P (2 * (k : Int) + 1) (2 * k + 1) (by omega) (by omega)
                    generalize (P.getD (2 * k) 0).toNat = e1 at hd1 hd1a hd1b hx1
                    generalize (P.getD (2 * k + 1) 0).toNat = e2 at hd2 hd2a hd2b hx2
                    generalize sigma r (2 * k) = sx at hs1 hst hd1
                    generalize sigma r (2 * k + 1) = sy at hs2 hst hd2
                    have Hg1 := Lib.hid (show ∀ W, Calls Tryz.prog 175 #[.int .u8 (e1 : Int)] W fun e w' => e = .returned (.int .i64 (sx : Int)) ∧ Below W.heap.size W w' from fun W => by rw [← hd1]; exact ref04_digit e1 hd1a hd1b W)
                    have Hg2 := Lib.hid (show ∀ W, Calls Tryz.prog 175 #[.int .u8 (e2 : Int)] W fun e w' => e = .returned (.int .i64 (sy : Int)) ∧ Below W.heap.size W w' from fun W => by rw [← hd2]; exact ref04_digit e2 hd2a hd2b W)
                    clear hd1 hd1a hd1b hd2 hd2a hd2b
                    have hlk : (stepsP (words s) r k vr).length = 16 := by rw [stepsP_length, hlr]
                    generalize hvk : stepsP (words s) r k vr = vk at hst hlk Hm5
                    have Hvk := Lib.hid hvk
                    clear hvk
                    have m0 := (cell_of_row w5 _ sx _ _ _ Hm5.out.b2).trans (row_at (l := words s) (by simpa [words] using hs1))
                    have m1 := (cell_of_row w5 _ sy _ _ _ Hm5.out.b2).trans (row_at (l := words s) (by simpa [words] using hs2))
                    generalize (words s).getD sx 0 = mx at m0 hst
                    generalize (words s).getD sy 0 = my at m1 hst
                    have Hst := Lib.hid hst
                    clear hst
                    go_wp2_with fail
                    have Hm6 := Lib.hid (Hm5.out.alloc (.cells #[.int .i64 qa, .int .i64 qb, .int .i64 qc, .int .i64 qd] 122))
                    have m0 := cell_regrown (cell_past (.cells #[.int .i64 qa, .int .i64 qb, .int .i64 qc, .int .i64 qd] 122) m0)
                    have m1 := cell_regrown (cell_past (.cells #[.int .i64 qa, .int .i64 qb, .int .i64 qc, .int .i64 qd] 122) m1)
                    have k0 := cell_regrown (show (w5.alloc (.cells #[.int .i64 qa, .int .i64 qb, .int .i64 qc, .int .i64 qd] 122)).cell? ⟨w5.heap.size, 0, none⟩ = some (.int .i64 qa) by simp)
                    have k1 := cell_regrown (show (w5.alloc (.cells #[.int .i64 qa, .int .i64 qb, .int .i64 qc, .int .i64 qd] 122)).cell? ⟨w5.heap.size, 1, none⟩ = some (.int .i64 qb) by simp)
                    have k2 := cell_regrown (show (w5.alloc (.cells #[.int .i64 qa, .int .i64 qb, .int .i64 qc, .int .i64 qd] 122)).cell? ⟨w5.heap.size, 2, none⟩ = some (.int .i64 qc) by simp)
                    have k3 := cell_regrown (show (w5.alloc (.cells #[.int .i64 qa, .int .i64 qb, .int .i64 qc, .int .i64 qd] 122)).cell? ⟨w5.heap.size, 3, none⟩ = some (.int .i64 qd) by simp)
                    have hi16 : (Tryz.prog.info? 118).map (·.size) = some (row vk).size := by rw [row_size, hlk]; kernel_rfl
                    have n1 : (sx : Int) < 16 := by omega
                    have n2 : (sy : Int) < 16 := by omega
                    refine wp_region_below_tail 24 (by kernel_rfl) (by kernel_rfl) ?_
                    simp only [List.take_succ_cons, List.take_zero, List.drop_succ_cons, List.drop_zero]
                    refine wpQuiet_load_row rfl 118 _ rfl (BI + 1) rfl 118 (row vk) (0, 0) _ (regrown_block Hm6.out.bv) Tryz.underlying118 rfl hi16 ?_
                    simp only [Act.put, List.setIfInBounds_toArray, List.set_cons_succ, List.set_cons_zero]
                    repeat (go_big_quiet_step (with_reducible first | exact Calls.regrown_of (Hg1.out _) | exact Calls.regrown_of (Hg2.out _)))
                    refine wpQuiet_nil ?_
                    intro w6 hwq
                    have hb6 : Below (w5.alloc (.cells #[.int .i64 qa, .int .i64 qb, .int .i64 qc, .int .i64 qd] 122)).heap.size (w5.alloc (.cells #[.int .i64 qa, .int .i64 qb, .int .i64 qc, .int .i64 qd] 122)) w6 := by
                      obtain ⟨pq, rfl⟩ := hwq
                      exact below_regrown _ _ _
                    clear hwq
                    have Hm7 := Lib.hid (Hm6.out.pass hb6)
                    clear Hm6 hb6 m0 m1 k0 k1 k2 k3 hx1 hx2
                    go_wp2_with fail
                    refine (ref04_mix vk hlk qa qb qc qd mx my _ Hap.out).mono ?_
                    rintro e w8 ⟨rfl, hb8⟩
                    have Hm8 := Lib.hid (Hm7.out.pass hb8)
                    clear Hm7 hb8
                    have hlm : (mixP vk qa qb qc qd mx my).length = 16 := by rw [mixP_length, hlk]
                    generalize hF : mixP vk qa qb qc qd mx my = F at hlm ⊢
                    have HF := Lib.hid hF
                    have hbv := Hm8.out.bv
                    have hiF : (Tryz.prog.info? 118).map (·.size) = some (row F).size := by rw [row_size, hlm]; kernel_rfl
                    have hzF : (row vk).size = (row F).size := by rw [row_size, row_size, hlk, hlm]
                    have hoF : (row F).all (·.oneCell') = true := by simp [row, Value.oneCell']
                    clear hF hlm
                    go_wp2_with (refine wpList_store_row rfl 118 _ _ rfl (BI + 1) (row F) rfl rfl 118 (row vk) hbv hiF hzF hoF ?_)
                    go_roundw
                    case rel => exact ⟨k + 1, by omega, by go_num, by rw [stepsP, Hvk.out, Hst.out, HF.out]; exact Hm8.out.rowv⟩
                    case measure => simp [intOf]; omega
                  · have hke : k = 8 := by omega
                    subst hke
                    have Hmk := Lib.hid hmk
                    clear hmk
                    go_wp2_with fail
                    go_roundw
                    case rel =>
                      have hrel' : ∃ r' : Nat, r' ≤ 10 ∧ Value.int .i64 ((r : Int) + 1) = .int .i64 r' ∧ Rm w BI (BI + 1) [h0, h1, h2, h3, h4, h5, h6, h7] (words s) (roundsP (words s) r' v0) wr := ⟨r + 1, by omega, by go_num, by rw [roundsP, Hvr.out]; exact Hmk.out⟩
                      first | exact hrel' | ((repeat apply Exists.intro); exact ⟨hrel', rfl⟩)
                    case measure => simp [intOf]; omega
              · have hre : r = 10 := by omega
                obtain ⟨v, hv⟩ : ∃ v, roundsP (words s) r v0 = v := ⟨_, rfl⟩
                have Hv := Lib.hid hv
                have hlv2 : v.length = 16 := by rw [← hv, roundsP_length, hlv]
                rw [hv] at hmr
                clear hv
                have Hmr := Lib.hid hmr
                clear hmr
                go_wp2_with fail
                go_loopw [19] (fun s19 wr => ∃ k : Nat, k ≤ 8 ∧ s19 = .int .i64 k ∧ Rm w BI (BI + 1) (finTo [h0, h1, h2, h3, h4, h5, h6, h7] v k) (words s) v wr) (fun i _ => 8 - (intOf i).toNat)
                case atStart => exact ⟨0, Nat.zero_le _, rfl, Hmr.out⟩
                case round =>
                  clear Hmr
                  obtain ⟨k, hk, rfl, hmk⟩ := hrel
                  by_cases hltk : k < 8
                  · have hfl := finTo_length [h0, h1, h2, h3, h4, h5, h6, h7] v k
                    have a0 := (cell_of_row wr _ k _ _ _ hmk.b0).trans (row_at (by rw [hfl]; exact hltk))
                    have a1 := (cell_of_row wr _ k _ _ _ hmk.bv).trans (row_at (l := v) (by omega))
                    have a2 := (cell_of_row wr _ (k + 8) _ _ _ hmk.bv).trans (row_at (l := v) (by omega))
                    rw [finTo_at _ _ _ hltk] at a0
                    have hsc := finTo_succ [h0, h1, h2, h3, h4, h5, h6, h7] v k
                    generalize List.getD [h0, h1, h2, h3, h4, h5, h6, h7] k 0 = x0 at a0 hsc
                    generalize v.getD k 0 = x1 at a1 hsc
                    generalize v.getD (k + 8) 0 = x2 at a2 hsc
                    have Hsc := Lib.hid hsc
                    have Hmk := Lib.hid hmk
                    clear hmk hfl hsc
                    go_wp2_with fail
                    have g0 := cell_regrown a0
                    have g1 := cell_regrown a1
                    have g2 := cell_regrown a2
                    refine wp_region_below_tail 14 (by kernel_rfl) (by kernel_rfl) ?_
                    simp only [List.take_succ_cons, List.take_zero, List.drop_succ_cons, List.drop_zero]
                    repeat (go_big_quiet_step ((fail)))
                    refine wpQuiet_nil ?_
                    intro w9 hwq
                    have hb9 : Below (wr).heap.size (wr) w9 := by
                      obtain ⟨pq, rfl⟩ := hwq
                      exact below_regrown _ _ _
                    clear hwq
                    have hm9 := Hmk.out.pass hb9
                    have a9 := hb9.cell (p := ⟨w.heap.size, k, none⟩) (block_lt_of_cell a0)
                    rw [a0] at a9
                    have f9 := frozen_of_row w9 _ k _ _ hm9.b0
                    have Hm9 := Lib.hid hm9
                    clear hm9 hb9 g0 g1 g2 a0 a1 a2
                    go_wp2
                    go_roundw
                    case rel => exact ⟨k + 1, by omega, by go_num, by rw [← Hsc.out, ← xor_assoc32]; exact Hm9.out.set0 k _⟩
                    case measure => simp [intOf]; omega
                  · have hfl := finTo_length [h0, h1, h2, h3, h4, h5, h6, h7] v k
                    have hfin : finTo [h0, h1, h2, h3, h4, h5, h6, h7] v k = compressP [h0, h1, h2, h3, h4, h5, h6, h7] s count true := by
                      rw [compressP, Hv0.out, ← hre, Hv.out, show k = 8 by omega]
                    generalize finTo [h0, h1, h2, h3, h4, h5, h6, h7] v k = F at hmk hfl hfin
                    have Hfin := Lib.hid hfin
                    have hi8 : (Tryz.prog.info? 101).map (·.size) = some (row F).size := by rw [row_size, hfl]; kernel_rfl
                    have hz8 : (row (List.replicate 8 0)).size = (row F).size := by rw [row_size, row_size, hfl]; rfl
                    have ho8 : (row F).all (·.oneCell') = true := by simp [row, Value.oneCell']
                    have b0 := hmk.b0
                    have b1 := hmk.b1
                    have Hmk := Lib.hid hmk
                    clear hmk hfin hre
                    go_wp2_with (first
                      | (refine wpList_load_row rfl 101 _ rfl w.heap.size rfl 101 (row F) (0, 0) _ b0 Tryz.underlying101 rfl hi8 ?_)
                      | (refine wpList_store_row rfl 101 _ _ rfl (w.heap.size + 1) (row F) rfl rfl 101 (row (List.replicate 8 0)) b1 hi8 hz8 ho8 ?_))
                    try simp only [Exit.inBlock, Exit.then]
                    refine bodyPost_ret (v := .tuple #[.agg (row F), .int .i64 0]) ?_ rfl ⟨?_, ?_⟩
                    · rw [results_cell_tmp rfl]
                      simp [asAddr, run_loadVar_row _ (w.heap.size + 1) 101 101 (row F) (0, 0) _ (setRow_heap _ _ _ _ _ _ b1) Tryz.underlying101 rfl hi8]
                    · rw [Hfin.out]
                    · exact below_setRow Hmk.out.below (by omega) _
          | false =>
            go_wp2_with fail
            obtain ⟨v0, hv0⟩ : ∃ v0, vInit [h0, h1, h2, h3, h4, h5, h6, h7] count false = v0 := ⟨_, rfl⟩
            have Hv0 := Lib.hid hv0
            clear hv0
            have hlv : v0.length = 16 := by rw [← Hv0.out]; exact vInit_length _ rfl _ _
            clear c12 c13 c14 f12 f13 f14
            go_loopw [15] (fun s15 wr => ∃ r : Nat, r ≤ 10 ∧ s15 = .int .i64 r ∧ Rm w BI (BI + 1) [h0, h1, h2, h3, h4, h5, h6, h7] (words s) (roundsP (words s) r v0) wr) (fun i _ => 10 - (intOf i).toNat)
            case atStart => exact ⟨0, Nat.zero_le _, rfl, by show Rm w BI (BI + 1) _ (words s) v0 _; rw [← Hv0.out]; exact (Hm.out.setv 12 _).setv 13 _⟩
            case round =>
              clear Hm
              obtain ⟨r, hr, rfl, hmr⟩ := hrel
              by_cases hltr : r < 10
              · obtain ⟨vr, hvr⟩ : ∃ vr, roundsP (words s) r v0 = vr := ⟨_, rfl⟩
                have Hvr := Lib.hid hvr
                rw [hvr] at hmr
                clear hvr
                have hlr : vr.length = 16 := by rw [← Hvr.out, roundsP_length, hlv]
                have Hmr := Lib.hid hmr
                clear hmr
                go_wp2_with fail
                refine (ref04_permutation r hltr _).mono ?_
                rintro e w4 ⟨rfl, hb4⟩
                have Hm4 := Lib.hid (Hmr.out.pass hb4)
                clear Hmr hb4
                have hPl := refPerm_length r hltr
                have Hdig := Lib.hid (fun i hi => digitP_at r i hltr hi)
                generalize refPerm r = P at hPl Hdig ⊢
                go_wp2_with fail
                go_loopw [17] (fun s17 wr => ∃ k : Nat, k ≤ 8 ∧ s17 = .int .i64 k ∧ Rm w BI (BI + 1) [h0, h1, h2, h3, h4, h5, h6, h7] (words s) (stepsP (words s) r k vr) wr) (fun i _ => 8 - (intOf i).toNat)
                case atStart => exact ⟨0, Nat.zero_le _, rfl, Hm4.out⟩
                case round =>
                  clear Hm4
                  obtain ⟨k, hk, rfl, hmk⟩ := hrel
                  by_cases hltk : k < 8
                  · have Hmk := Lib.hid hmk
                    clear hmk
                    go_wp2_with fail
                    refine (ref04_columns k hltk _).mono ?_
                    rintro e w5 ⟨rfl, hb5⟩
                    have Hm5 := Lib.hid (Hmk.out.pass hb5)
                    clear Hmk hb5
                    obtain ⟨qa, qb, qc, qd, hq⟩ : ∃ qa qb qc qd, quad k = (qa, qb, qc, qd) := ⟨_, _, _, _, rfl⟩
                    have hqo := quad_ok k hltk
                    have hst : stepP (words s) r k (stepsP (words s) r k vr) = mixP (stepsP (words s) r k vr) qa qb qc qd ((words s).getD (sigma r (2 * k)) 0) ((words s).getD (sigma r (2 * k + 1)) 0) := by rw [stepP, hq]
                    rw [hq] at hqo ⊢
                    rw [show quadV (qa, qb, qc, qd) = .agg #[.int .i64 qa, .int .i64 qb, .int .i64 qc, .int .i64 qd] from rfl]
                    have Hap := Lib.hid (show Apart 16 qa qb qc qd from ⟨hqo.1, hqo.2.1, hqo.2.2.1, hqo.2.2.2.1, hqo.2.2.2.2.1, hqo.2.2.2.2.2.1, hqo.2.2.2.2.2.2.1, hqo.2.2.2.2.2.2.2.1, hqo.2.2.2.2.2.2.2.2.1, hqo.2.2.2.2.2.2.2.2.2⟩)
                    clear hq hqo
                    have hs1 := sigma_ok r (2 * k) hltr (by omega)
                    have hs2 := sigma_ok r (2 * k + 1) hltr (by omega)
                    obtain ⟨hd1, hd1a, hd1b⟩ := Hdig.out (2 * k) (by omega)
                    obtain ⟨hd2, hd2a, hd2b⟩ := Hdig.out (2 * k + 1) (by omega)
                    have hx1 := run_at Tryz.underlying9 P (2 * (k : Int)) (2 * k) (by omega) (by omega)
                    have hx2 := run_at Tryz.underlying9 P (2 * (k : Int) + 1) (2 * k + 1) (by omega) (by omega)
                    generalize (P.getD (2 * k) 0).toNat = e1 at hd1 hd1a hd1b hx1
                    generalize (P.getD (2 * k + 1) 0).toNat = e2 at hd2 hd2a hd2b hx2
                    generalize sigma r (2 * k) = sx at hs1 hst hd1
                    generalize sigma r (2 * k + 1) = sy at hs2 hst hd2
                    have Hg1 := Lib.hid (show ∀ W, Calls Tryz.prog 175 #[.int .u8 (e1 : Int)] W fun e w' => e = .returned (.int .i64 (sx : Int)) ∧ Below W.heap.size W w' from fun W => by rw [← hd1]; exact ref04_digit e1 hd1a hd1b W)
                    have Hg2 := Lib.hid (show ∀ W, Calls Tryz.prog 175 #[.int .u8 (e2 : Int)] W fun e w' => e = .returned (.int .i64 (sy : Int)) ∧ Below W.heap.size W w' from fun W => by rw [← hd2]; exact ref04_digit e2 hd2a hd2b W)
                    clear hd1 hd1a hd1b hd2 hd2a hd2b
                    have hlk : (stepsP (words s) r k vr).length = 16 := by rw [stepsP_length, hlr]
                    generalize hvk : stepsP (words s) r k vr = vk at hst hlk Hm5
                    have Hvk := Lib.hid hvk
                    clear hvk
                    have m0 := (cell_of_row w5 _ sx _ _ _ Hm5.out.b2).trans (row_at (l := words s) (by simpa [words] using hs1))
                    have m1 := (cell_of_row w5 _ sy _ _ _ Hm5.out.b2).trans (row_at (l := words s) (by simpa [words] using hs2))
                    generalize (words s).getD sx 0 = mx at m0 hst
                    generalize (words s).getD sy 0 = my at m1 hst
                    have Hst := Lib.hid hst
                    clear hst
                    go_wp2_with fail
                    have Hm6 := Lib.hid (Hm5.out.alloc (.cells #[.int .i64 qa, .int .i64 qb, .int .i64 qc, .int .i64 qd] 122))
                    have m0 := cell_regrown (cell_past (.cells #[.int .i64 qa, .int .i64 qb, .int .i64 qc, .int .i64 qd] 122) m0)
                    have m1 := cell_regrown (cell_past (.cells #[.int .i64 qa, .int .i64 qb, .int .i64 qc, .int .i64 qd] 122) m1)
                    have k0 := cell_regrown (show (w5.alloc (.cells #[.int .i64 qa, .int .i64 qb, .int .i64 qc, .int .i64 qd] 122)).cell? ⟨w5.heap.size, 0, none⟩ = some (.int .i64 qa) by simp)
                    have k1 := cell_regrown (show (w5.alloc (.cells #[.int .i64 qa, .int .i64 qb, .int .i64 qc, .int .i64 qd] 122)).cell? ⟨w5.heap.size, 1, none⟩ = some (.int .i64 qb) by simp)
                    have k2 := cell_regrown (show (w5.alloc (.cells #[.int .i64 qa, .int .i64 qb, .int .i64 qc, .int .i64 qd] 122)).cell? ⟨w5.heap.size, 2, none⟩ = some (.int .i64 qc) by simp)
                    have k3 := cell_regrown (show (w5.alloc (.cells #[.int .i64 qa, .int .i64 qb, .int .i64 qc, .int .i64 qd] 122)).cell? ⟨w5.heap.size, 3, none⟩ = some (.int .i64 qd) by simp)
                    have hi16 : (Tryz.prog.info? 118).map (·.size) = some (row vk).size := by rw [row_size, hlk]; kernel_rfl
                    have n1 : (sx : Int) < 16 := by omega
                    have n2 : (sy : Int) < 16 := by omega
                    refine wp_region_below_tail 24 (by kernel_rfl) (by kernel_rfl) ?_
                    simp only [List.take_succ_cons, List.take_zero, List.drop_succ_cons, List.drop_zero]
                    refine wpQuiet_load_row rfl 118 _ rfl (BI + 1) rfl 118 (row vk) (0, 0) _ (regrown_block Hm6.out.bv) Tryz.underlying118 rfl hi16 ?_
                    simp only [Act.put, List.setIfInBounds_toArray, List.set_cons_succ, List.set_cons_zero]
                    repeat (go_big_quiet_step (with_reducible first | exact Calls.regrown_of (Hg1.out _) | exact Calls.regrown_of (Hg2.out _)))
                    refine wpQuiet_nil ?_
                    intro w6 hwq
                    have hb6 : Below (w5.alloc (.cells #[.int .i64 qa, .int .i64 qb, .int .i64 qc, .int .i64 qd] 122)).heap.size (w5.alloc (.cells #[.int .i64 qa, .int .i64 qb, .int .i64 qc, .int .i64 qd] 122)) w6 := by
                      obtain ⟨pq, rfl⟩ := hwq
                      exact below_regrown _ _ _
                    clear hwq
                    have Hm7 := Lib.hid (Hm6.out.pass hb6)
                    clear Hm6 hb6 m0 m1 k0 k1 k2 k3 hx1 hx2
                    go_wp2_with fail
                    refine (ref04_mix vk hlk qa qb qc qd mx my _ Hap.out).mono ?_
                    rintro e w8 ⟨rfl, hb8⟩
                    have Hm8 := Lib.hid (Hm7.out.pass hb8)
                    clear Hm7 hb8
                    have hlm : (mixP vk qa qb qc qd mx my).length = 16 := by rw [mixP_length, hlk]
                    generalize hF : mixP vk qa qb qc qd mx my = F at hlm ⊢
                    have HF := Lib.hid hF
                    have hbv := Hm8.out.bv
                    have hiF : (Tryz.prog.info? 118).map (·.size) = some (row F).size := by rw [row_size, hlm]; kernel_rfl
                    have hzF : (row vk).size = (row F).size := by rw [row_size, row_size, hlk, hlm]
                    have hoF : (row F).all (·.oneCell') = true := by simp [row, Value.oneCell']
                    clear hF hlm
                    go_wp2_with (refine wpList_store_row rfl 118 _ _ rfl (BI + 1) (row F) rfl rfl 118 (row vk) hbv hiF hzF hoF ?_)
                    go_roundw
                    case rel => exact ⟨k + 1, by omega, by go_num, by rw [stepsP, Hvk.out, Hst.out, HF.out]; exact Hm8.out.rowv⟩
                    case measure => simp [intOf]; omega
                  · have hke : k = 8 := by omega
                    subst hke
                    have Hmk := Lib.hid hmk
                    clear hmk
                    go_wp2_with fail
                    go_roundw
                    case rel =>
                      have hrel' : ∃ r' : Nat, r' ≤ 10 ∧ Value.int .i64 ((r : Int) + 1) = .int .i64 r' ∧ Rm w BI (BI + 1) [h0, h1, h2, h3, h4, h5, h6, h7] (words s) (roundsP (words s) r' v0) wr := ⟨r + 1, by omega, by go_num, by rw [roundsP, Hvr.out]; exact Hmk.out⟩
                      first | exact hrel' | ((repeat apply Exists.intro); exact ⟨hrel', rfl⟩)
                    case measure => simp [intOf]; omega
              · have hre : r = 10 := by omega
                obtain ⟨v, hv⟩ : ∃ v, roundsP (words s) r v0 = v := ⟨_, rfl⟩
                have Hv := Lib.hid hv
                have hlv2 : v.length = 16 := by rw [← hv, roundsP_length, hlv]
                rw [hv] at hmr
                clear hv
                have Hmr := Lib.hid hmr
                clear hmr
                go_wp2_with fail
                go_loopw [19] (fun s19 wr => ∃ k : Nat, k ≤ 8 ∧ s19 = .int .i64 k ∧ Rm w BI (BI + 1) (finTo [h0, h1, h2, h3, h4, h5, h6, h7] v k) (words s) v wr) (fun i _ => 8 - (intOf i).toNat)
                case atStart => exact ⟨0, Nat.zero_le _, rfl, Hmr.out⟩
                case round =>
                  clear Hmr
                  obtain ⟨k, hk, rfl, hmk⟩ := hrel
                  by_cases hltk : k < 8
                  · have hfl := finTo_length [h0, h1, h2, h3, h4, h5, h6, h7] v k
                    have a0 := (cell_of_row wr _ k _ _ _ hmk.b0).trans (row_at (by rw [hfl]; exact hltk))
                    have a1 := (cell_of_row wr _ k _ _ _ hmk.bv).trans (row_at (l := v) (by omega))
                    have a2 := (cell_of_row wr _ (k + 8) _ _ _ hmk.bv).trans (row_at (l := v) (by omega))
                    rw [finTo_at _ _ _ hltk] at a0
                    have hsc := finTo_succ [h0, h1, h2, h3, h4, h5, h6, h7] v k
                    generalize List.getD [h0, h1, h2, h3, h4, h5, h6, h7] k 0 = x0 at a0 hsc
                    generalize v.getD k 0 = x1 at a1 hsc
                    generalize v.getD (k + 8) 0 = x2 at a2 hsc
                    have Hsc := Lib.hid hsc
                    have Hmk := Lib.hid hmk
                    clear hmk hfl hsc
                    go_wp2_with fail
                    have g0 := cell_regrown a0
                    have g1 := cell_regrown a1
                    have g2 := cell_regrown a2
                    refine wp_region_below_tail 14 (by kernel_rfl) (by kernel_rfl) ?_
                    simp only [List.take_succ_cons, List.take_zero, List.drop_succ_cons, List.drop_zero]
                    repeat (go_big_quiet_step ((fail)))
                    refine wpQuiet_nil ?_
                    intro w9 hwq
                    have hb9 : Below (wr).heap.size (wr) w9 := by
                      obtain ⟨pq, rfl⟩ := hwq
                      exact below_regrown _ _ _
                    clear hwq
                    have hm9 := Hmk.out.pass hb9
                    have a9 := hb9.cell (p := ⟨w.heap.size, k, none⟩) (block_lt_of_cell a0)
                    rw [a0] at a9
                    have f9 := frozen_of_row w9 _ k _ _ hm9.b0
                    have Hm9 := Lib.hid hm9
                    clear hm9 hb9 g0 g1 g2 a0 a1 a2
                    go_wp2
                    go_roundw
                    case rel => exact ⟨k + 1, by omega, by go_num, by rw [← Hsc.out, ← xor_assoc32]; exact Hm9.out.set0 k _⟩
                    case measure => simp [intOf]; omega
                  · have hfl := finTo_length [h0, h1, h2, h3, h4, h5, h6, h7] v k
                    have hfin : finTo [h0, h1, h2, h3, h4, h5, h6, h7] v k = compressP [h0, h1, h2, h3, h4, h5, h6, h7] s count false := by
                      rw [compressP, Hv0.out, ← hre, Hv.out, show k = 8 by omega]
                    generalize finTo [h0, h1, h2, h3, h4, h5, h6, h7] v k = F at hmk hfl hfin
                    have Hfin := Lib.hid hfin
                    have hi8 : (Tryz.prog.info? 101).map (·.size) = some (row F).size := by rw [row_size, hfl]; kernel_rfl
                    have hz8 : (row (List.replicate 8 0)).size = (row F).size := by rw [row_size, row_size, hfl]; rfl
                    have ho8 : (row F).all (·.oneCell') = true := by simp [row, Value.oneCell']
                    have b0 := hmk.b0
                    have b1 := hmk.b1
                    have Hmk := Lib.hid hmk
                    clear hmk hfin hre
                    go_wp2_with (first
                      | (refine wpList_load_row rfl 101 _ rfl w.heap.size rfl 101 (row F) (0, 0) _ b0 Tryz.underlying101 rfl hi8 ?_)
                      | (refine wpList_store_row rfl 101 _ _ rfl (w.heap.size + 1) (row F) rfl rfl 101 (row (List.replicate 8 0)) b1 hi8 hz8 ho8 ?_))
                    try simp only [Exit.inBlock, Exit.then]
                    refine bodyPost_ret (v := .tuple #[.agg (row F), .int .i64 0]) ?_ rfl ⟨?_, ?_⟩
                    · rw [results_cell_tmp rfl]
                      simp [asAddr, run_loadVar_row _ (w.heap.size + 1) 101 101 (row F) (0, 0) _ (setRow_heap _ _ _ _ _ _ b1) Tryz.underlying101 rfl hi8]
                    · rw [Hfin.out]
                    · exact below_setRow Hmk.out.below (by omega) _
end Go.Proofs.YtcbmdghnlbieeaaGreatDoor
namespace Go.Proofs.YtcbmdghnlbieeaaGreatDoor
open Go.RowKit

/-- Digest's memory: the words so far, in a block of the call's own. -/
structure DM (w : World) (B : Nat) (l : List Int) (X : World) : Prop where
  below : Below w.heap.size w X
  le : w.heap.size ≤ B
  lt : B < X.heap.size
  row_ : X.heap[B]? = some (.cells (row l) 101 (0, 0))
theorem DM.pass {w X X' : World} {B : Nat} {l : List Int} (h : DM w B l X) (hb : Below X.heap.size X X') : DM w B l X' :=
  ⟨h.below.trans (hb.mono h.below.size), h.le, Nat.lt_of_lt_of_le h.lt hb.size, (hb.block _ h.lt).trans h.row_⟩
theorem DM.set {w X : World} {B : Nat} {l l' : List Int} (h : DM w B l X) : DM w B l' (X.setRow B (row l')) :=
  ⟨below_setRow h.below h.le _, h.le, by simpa using h.lt, setRow_heap _ _ _ _ _ _ h.row_⟩

/-- Between two pieces, or behind the last. -/
def DgR (w : World) (B : Nat) (s : Bytes) (v4 v5 : Value) (X : World) : Prop :=
  (∃ i : Nat, i ≤ lastAt s ∧ 64 * i ≤ s.length ∧ v4 = .int .i64 (64 * (i : Int)) ∧ v5 = .bool false ∧ DM w B (hAt s i) X) ∨ (v4 = .int .i64 (s.length : Int) ∧ v5 = .bool true ∧ DM w B (sumWords s) X)
def bOf : Value → Nat
  | .bool true => 0
  | _ => 1

theorem out_step (G : List Int) (hG : G.length = 8) (q r : Nat) (hq : q < 8) (hr : r < 4) : (outTo G 8).take (4 * q + r + 1) = (outTo G 8).take (4 * q + r) ++ [(wordBytes (G.getD q 0)).getD r 0] := by
  obtain ⟨a, b, c, d, e, f, g, h, rfl⟩ := list8 hG
  rcases (show q = 0 ∨ q = 1 ∨ q = 2 ∨ q = 3 ∨ q = 4 ∨ q = 5 ∨ q = 6 ∨ q = 7 by omega) with rfl | rfl | rfl | rfl | rfl | rfl | rfl | rfl <;>
    rcases (show r = 0 ∨ r = 1 ∨ r = 2 ∨ r = 3 by omega) with rfl | rfl | rfl | rfl <;> rfl
theorem out_len (G : List Int) (hG : G.length = 8) : (outTo G 8).length = 32 := by
  obtain ⟨a, b, c, d, e, f, g, h, rfl⟩ := list8 hG
  rfl

set_option maxRecDepth 100000 in
set_option maxHeartbeats 2000000 in
theorem ref04_Digest (s : Bytes) (hs : s.length ≤ 140737488355328) (w : World) :
    Calls Tryz.prog 127 #[S s] w fun e w' => e = .returned (S (sumP s)) ∧ Below w.heap.size w w' := by
  go_enter Tryz.func127, Tryz.ntmps127
  go_wp2_with fail
  refine (ref04_Initial _).mono ?_
  rintro e w1 ⟨rfl, hb1⟩
  rw [show row blkIV = #[.int .u32 1779033703, .int .u32 3144134277, .int .u32 1013904242, .int .u32 2773480762, .int .u32 1359893119, .int .u32 2600822924, .int .u32 528734635, .int .u32 1541459225] from rfl]
  go_wp2_with fail
  go_loopw [4, 5] (fun s4 s5 wr => DgR w w1.heap.size s s4 s5 wr) (fun c d _ => (s.length - (intOf c).toNat) + bOf d)
  case atStart => exact .inl ⟨0, Nat.zero_le _, Nat.zero_le _, rfl, rfl, hb1.alloc hb1.size _, hb1.size, by simp, heap_alloc_new w1 (.cells (row sumStart) 101)⟩
  case round =>
    have hb1s := hb1.size
    clear hb1
    rcases hrel with ⟨i, hi, hil, rfl, rfl, hm⟩ | ⟨rfl, rfl, hm⟩
    · have Hm := Lib.hid hm
      clear hm
      by_cases hlt : i < lastAt s
      · have hgt : 64 * i + 64 < s.length := by unfold lastAt at hlt; omega
        have hi1 : i + 1 ≤ lastAt s := hlt
        clear hlt hi
        have hw1 : IntKind.i64.wrap ((s.length : Int) - 64 * (i : Int)) = (s.length : Int) - 64 * (i : Int) := IntWalk.i64_in _ (by omega)
        have hw2 : IntKind.i64.wrap (64 * (i : Int) + 64) = 64 * (i : Int) + 64 := IntWalk.i64_in _ (by omega)
        have hw3 : (0 : Int) ≤ 64 * (i : Int) := by omega
        have hw4 : (64 * (i : Int) + 64).toNat = 64 * i + 64 := by omega
        have hw5 : (64 * (i : Int)).toNat = 64 * i := by omega
        have hw6 : 64 * i + 64 - 64 * i = 64 := by omega
        have hd1 : decide (64 < (s.length : Int) - 64 * (i : Int)) = true := by simp; omega
        have Hat := Lib.hid (show compressP (hAt s i) ((s.drop (64 * i)).take 64) (64 * (i : Int) + 64) false = hAt s (i + 1) by rw [hAt, show ((64 * i + 64 : Nat) : Int) = 64 * (i : Int) + 64 by omega])
        have hbl : ((s.drop (64 * i)).take 64).length = 64 := by simp; omega
        have hc : ((64 * (i : Int) + 64) == (s.length : Int)) = false := by rw [beq_eq_false_iff_ne]; omega
        have hwu : IntKind.u64.wrap (64 * (i : Int) + 64) = 64 * (i : Int) + 64 := IntWalk.u64_in _ (by omega)
        go_wp2_with fail
        generalize (s.drop (64 * i)).take 64 = blk at Hat hbl ⊢
        have Hbl := Lib.hid hbl
        have hbl2 : 64 ≤ blk.length := by omega
        clear hbl
        go_loop [7] (fun s7 => s7 = S blk) (fun _ => 0)
        case atStart => rfl
        case round =>
          obtain rfl := hrel
          have hrow := Hm.out.row_
          have hl8 := hAt_length s i
          generalize hAt s i = F at hrow hl8 Hat
          have hi8 : (Tryz.prog.info? 101).map (·.size) = some (row F).size := by rw [row_size, hl8]; kernel_rfl
          have Hl8 := Lib.hid hl8
          clear hl8
          go_wp2_with (refine wpList_load_row rfl 101 _ rfl w1.heap.size rfl 101 (row F) (0, 0) _ hrow Tryz.underlying101 rfl hi8 ?_)
          refine (ref04_Compress F Hl8.out blk Hbl.out (64 * (i : Int) + 64) false _).mono ?_
          rintro e w3 ⟨rfl, hb3⟩
          have Hm3 := Lib.hid (Hm.out.pass hb3)
          have hr3 : w3.heap[w1.heap.size]? = some (.cells (row F) 101 (0, 0)) := (hb3.block _ Hm.out.lt).trans hrow
          rw [Hat.out]
          have hl9 := hAt_length s (i + 1)
          generalize hG : hAt s (i + 1) = G at hl9 ⊢
          have HG := Lib.hid hG
          have hi9 : (Tryz.prog.info? 101).map (·.size) = some (row G).size := by rw [row_size, hl9]; kernel_rfl
          have hz9 : (row F).size = (row G).size := by rw [row_size, row_size, Hl8.out, hl9]
          have ho9 : (row G).all (·.oneCell') = true := by simp [row, Value.oneCell']
          clear hb3 hrow hG hl9
          go_wp2_with (refine wpList_store_row rfl 101 _ _ rfl w1.heap.size (row G) rfl rfl 101 (row F) hr3 hi9 hz9 ho9 ?_)
          simp only [Act.put]
          go_roundw
          case rel => exact .inl ⟨i + 1, by omega, by omega, by go_num, rfl, by rw [HG.out]; exact Hm3.out.set⟩
          case measure => simp [intOf, bOf]; omega
      · have hie : i = lastAt s := by omega
        have hle : s.length ≤ 64 * i + 64 := by unfold lastAt at hie; omega
        obtain ⟨m, hm⟩ : ∃ m, s.length - 64 * i = m := ⟨_, rfl⟩
        have hmi : (s.length : Int) - 64 * (i : Int) = (m : Int) := by omega
        have hm64 : m ≤ 64 := by omega
        have Hsum := Lib.hid (show compressP (hAt s i) (s.drop (64 * i) ++ List.replicate (64 - m) 0) (s.length : Int) true = sumWords s by rw [sumWords, ← hie, hm])
        have hdr : (s.drop (64 * i)).length = m := by simp; omega
        have htk : (s.drop (64 * i)).take m = s.drop (64 * i) := List.take_of_length_le (by omega)
        have hw1 : IntKind.i64.wrap ((s.length : Int) - 64 * (i : Int)) = (m : Int) := by rw [hmi]; exact IntWalk.i64_in _ (by omega)
        have hw2 : IntKind.i64.wrap (64 * (i : Int) + (m : Int)) = (s.length : Int) := by rw [IntWalk.i64_in _ (by omega)]; omega
        have hw3 : (0 : Int) ≤ 64 * (i : Int) := by omega
        have hw5 : (64 * (i : Int)).toNat = 64 * i := by omega
        have hw7 : s.length - 64 * i = m := hm
        have hw8 : 64 * (i : Int) ≤ (s.length : Int) := by omega
        have hwu : IntKind.u64.wrap (s.length : Int) = (s.length : Int) := IntWalk.u64_in _ (by omega)
        clear hm hie hlt hmi hdr
        go_wp2_with fail
        generalize hblk : s.drop (64 * i) = blk at Hsum ⊢
        have hbl : blk.length = m := by rw [← hblk]; simp; omega
        clear hblk hw1 hw2 hw3 hw5 hw7 hw8
        have Hbl := Lib.hid hbl
        have hbl2 : blk.length ≤ 64 := by omega
        have hwc : ((s.length : Int) == (s.length : Int)) = true := beq_self_eq_true _
        clear hbl
        go_loop [7] (fun s7 => ∃ j : Nat, j + m ≤ 64 ∧ s7 = S (blk ++ List.replicate j 0)) (fun v => match v with | .string b => 64 - b.size | _ => 0)
        case atStart => exact ⟨0, by omega, by simp⟩
        case round =>
          obtain ⟨j, hj, rfl⟩ := hrel
          have hjl : (blk ++ List.replicate j (0 : UInt8)).length = m + j := by rw [List.length_append, List.length_replicate, Hbl.out]
          have Hjs := Lib.hid (show blk ++ List.replicate j (0 : UInt8) ++ [0] = blk ++ List.replicate (j + 1) 0 by rw [List.replicate_succ', List.append_assoc])
          have Hjl := Lib.hid hjl
          generalize hx : blk ++ List.replicate j (0 : UInt8) = x at hjl Hjs Hjl ⊢
          have Hx := Lib.hid hx
          clear hx
          by_cases hlt64 : j + m < 64
          · have hx64 : x.length < 64 := by omega
            clear hjl
            go_wp2
            go_round
            case rel => exact ⟨j + 1, by omega, by rw [Hjs.out]⟩
            case measure => simp [ByteArray.size]; omega
          · have hx64 : 64 ≤ x.length := by omega
            have Hx64 := Lib.hid (show x.length = 64 by omega)
            have Hxe := Lib.hid (show x = blk ++ List.replicate (64 - m) 0 by rw [← Hx.out, show 64 - m = j by omega])
            clear hjl
            have hrow := Hm.out.row_
            have hl8 := hAt_length s i
            generalize hAt s i = F at hrow hl8 Hsum
            have hi8 : (Tryz.prog.info? 101).map (·.size) = some (row F).size := by rw [row_size, hl8]; kernel_rfl
            have Hl8 := Lib.hid hl8
            clear hl8
            go_wp2_with (refine wpList_load_row rfl 101 _ rfl w1.heap.size rfl 101 (row F) (0, 0) _ hrow Tryz.underlying101 rfl hi8 ?_)
            refine (ref04_Compress F Hl8.out x Hx64.out (s.length : Int) true _).mono ?_
            rintro e w3 ⟨rfl, hb3⟩
            have Hm3 := Lib.hid (Hm.out.pass hb3)
            have hr3 : w3.heap[w1.heap.size]? = some (.cells (row F) 101 (0, 0)) := (hb3.block _ Hm.out.lt).trans hrow
            have hl9 : (compressP F x (s.length : Int) true).length = 8 := compressP_length ..
            generalize hG : compressP F x (s.length : Int) true = G at hl9 ⊢
            have HG := Lib.hid (show sumWords s = G by rw [← Hsum.out, ← Hxe.out, hG])
            have hi9 : (Tryz.prog.info? 101).map (·.size) = some (row G).size := by rw [row_size, hl9]; kernel_rfl
            have hz9 : (row F).size = (row G).size := by rw [row_size, row_size, Hl8.out, hl9]
            have ho9 : (row G).all (·.oneCell') = true := by simp [row, Value.oneCell']
            clear hb3 hrow hG hl9
            go_wp2_with (refine wpList_store_row rfl 101 _ _ rfl w1.heap.size (row G) rfl rfl 101 (row F) hr3 hi9 hz9 ho9 ?_)
            simp only [Act.put]
            go_roundw
            case rel => exact .inr ⟨rfl, rfl, by rw [HG.out]; exact Hm3.out.set⟩
            case measure => simp [intOf, bOf]
    · have Hm := Lib.hid hm
      clear hm
      have hlG : (sumWords s).length = 8 := compressP_length ..
      obtain ⟨G, hG⟩ : ∃ G, sumWords s = G := ⟨_, rfl⟩
      have HG := Lib.hid hG
      rw [hG] at hlG Hm
      clear hG
      go_wp2_with fail
      have hBs := Hm.out.lt
      have hown0 : OwnS tB 5 (fun _ => none) wr wr.heap.size (.slice none 0 0) ((outTo G 8).take 0) := OwnS.nil _ _ _ _ _
      have Hown0 := Lib.hid hown0
      have hB0 : w.heap.size ≤ wr.heap.size := Hm.out.below.size
      clear hown0 hb1s
      generalize hB0e : wr.heap.size = B0 at hBs Hown0 hB0
      have HB0e := Lib.hid (Nat.le_of_eq hB0e.symm)
      clear hB0e
      have hol := out_len G hlG
      generalize w1.heap.size = B at hBs Hm ⊢
      go_loopw [8, 9] (fun s8 s9 X => ∃ k : Nat, k ≤ 32 ∧ s9 = .int .i64 k ∧ OwnS tB 5 (fun _ => none) X B0 s8 ((outTo G 8).take k) ∧ X.heap[B]? = some (.cells (row G) 101 (0, 0)) ∧ Below w.heap.size w X ∧ B0 ≤ X.heap.size) (fun _ k _ => 32 - (intOf k).toNat)
      case atStart => exact ⟨0, Nat.zero_le _, rfl, Hown0.out, Hm.out.row_, Hm.out.below, HB0e.out⟩
      case round =>
        clear Hown0 Hm HB0e
        obtain ⟨k, hk, rfl, hown, hrow, hb, hsz⟩ := hrel
        have Hown := Lib.hid hown
        by_cases hlt : k < 32
        · obtain ⟨q, r, hq, hr, hkq⟩ : ∃ q r, q < 8 ∧ r < 4 ∧ k = 4 * q + r := ⟨k / 4, k % 4, by omega, by omega, by omega⟩
          have hdiv : (k : Int) / 4 = (q : Int) := by omega
          have hqi : (q : Int) < 8 := by omega
          have Hst := Lib.hid (show (outTo G 8).take (k + 1) = (outTo G 8).take k ++ [(wordBytes (G.getD q 0)).getD r 0] by rw [hkq]; exact out_step G hlG q r hq hr)
          have c0 := (cell_of_row wr _ q _ _ _ hrow).trans (row_at (l := G) (by omega))
          have hlk : ((outTo G 8).take k).length ≤ 32 := by rw [List.length_take]; omega
          have Hkq := Lib.hid hkq
          have Hrow := Lib.hid hrow
          clear hkq hown hrow hol
          generalize G.getD q 0 = x0 at c0 Hst
          rcases (show r = 0 ∨ r = 1 ∨ r = 2 ∨ r = 3 by omega) with rfl | rfl | rfl | rfl
          · have hmod : (k : Int) % 4 = 0 := by have := Hkq.out; omega
            go_wp2_with (at_builtin; refine wpList_append1 (w0 := wr) u8_elem rfl _ _ rfl _ _ _ rfl Hown.out (x0 % 256) [.int .u8 (x0 % 256)] _ rfl rfl (by omega) (by omega) hsz ?_)
            intro v5 w5 hown5 hg5
            have hb5 := Below.own hb hg5 Hown.out hB0 hsz
            have hr5 := (hg5.block B (by omega) (fun e => Hown.out.ne_lt hBs e.symm)).trans Hrow.out
            have hs5 := hg5.size
            have Hown5 := Lib.hid hown5
            have Hr5 := Lib.hid hr5
            clear hown5 hr5 hg5 Hown Hrow
            go_wp2
            go_roundw
            case rel => exact ⟨k + 1, by omega, by go_num, by rw [Hst.out]; exact Hown5.out, Hr5.out, hb5, by omega⟩
            case measure => simp [intOf]; omega
          · have hmod : (k : Int) % 4 = 1 := by have := Hkq.out; omega
            go_wp2_with (at_builtin; refine wpList_append1 (w0 := wr) u8_elem rfl _ _ rfl _ _ _ rfl Hown.out (x0 / 256 % 256) [.int .u8 (x0 / 256 % 256)] _ rfl rfl (by omega) (by omega) hsz ?_)
            intro v5 w5 hown5 hg5
            have hb5 := Below.own hb hg5 Hown.out hB0 hsz
            have hr5 := (hg5.block B (by omega) (fun e => Hown.out.ne_lt hBs e.symm)).trans Hrow.out
            have hs5 := hg5.size
            have Hown5 := Lib.hid hown5
            have Hr5 := Lib.hid hr5
            clear hown5 hr5 hg5 Hown Hrow
            go_wp2
            go_roundw
            case rel => exact ⟨k + 1, by omega, by go_num, by rw [Hst.out]; exact Hown5.out, Hr5.out, hb5, by omega⟩
            case measure => simp [intOf]; omega
          · have hmod : (k : Int) % 4 = 2 := by have := Hkq.out; omega
            go_wp2_with (at_builtin; refine wpList_append1 (w0 := wr) u8_elem rfl _ _ rfl _ _ _ rfl Hown.out (x0 / 65536 % 256) [.int .u8 (x0 / 65536 % 256)] _ rfl rfl (by omega) (by omega) hsz ?_)
            intro v5 w5 hown5 hg5
            have hb5 := Below.own hb hg5 Hown.out hB0 hsz
            have hr5 := (hg5.block B (by omega) (fun e => Hown.out.ne_lt hBs e.symm)).trans Hrow.out
            have hs5 := hg5.size
            have Hown5 := Lib.hid hown5
            have Hr5 := Lib.hid hr5
            clear hown5 hr5 hg5 Hown Hrow
            go_wp2
            go_roundw
            case rel => exact ⟨k + 1, by omega, by go_num, by rw [Hst.out]; exact Hown5.out, Hr5.out, hb5, by omega⟩
            case measure => simp [intOf]; omega
          · have hmod : (k : Int) % 4 = 3 := by have := Hkq.out; omega
            go_wp2_with (at_builtin; refine wpList_append1 (w0 := wr) u8_elem rfl _ _ rfl _ _ _ rfl Hown.out (x0 / 16777216 % 256) [.int .u8 (x0 / 16777216 % 256)] _ rfl rfl (by omega) (by omega) hsz ?_)
            intro v5 w5 hown5 hg5
            have hb5 := Below.own hb hg5 Hown.out hB0 hsz
            have hr5 := (hg5.block B (by omega) (fun e => Hown.out.ne_lt hBs e.symm)).trans Hrow.out
            have hs5 := hg5.size
            have Hown5 := Lib.hid hown5
            have Hr5 := Lib.hid hr5
            clear hown5 hr5 hg5 Hown Hrow
            go_wp2
            go_roundw
            case rel => exact ⟨k + 1, by omega, by go_num, by rw [Hst.out]; exact Hown5.out, Hr5.out, hb5, by omega⟩
            case measure => simp [intOf]; omega
        · have hke : k = 32 := by omega
          have hfull : (outTo G 8).take k = outTo G 8 := List.take_of_length_le (by omega)
          have hret : (outTo G 8).map (fun x => UInt8.ofNat x.toNat) = sumP s := by rw [sumP, HG.out]
          rw [hfull] at hown
          have hpos : 0 < (outTo G 8).length := by omega
          have hcv := conv_own (P := Tryz.prog) Tryz.underlying92 Tryz.underlying5 Tryz.underlying9 wr hown hpos
          rw [hret] at hcv
          clear hown hpos hke hfull hret hrow Hown hol hlG
          go_wp2
          go_ret
          exact ⟨rfl, hb⟩

def sumPart (s : Bytes) (k : Nat) : Bytes := if k = 0 then [] else s
set_option maxRecDepth 100000 in
set_option maxHeartbeats 400000 in
theorem ref04_Sum1 (b off cap : Nat) (s : Bytes) (hs : s.length ≤ 140737488355328) (w : World) (hc : w.cell? ⟨b, off, none⟩ = some (S s)) :
    Calls Tryz.prog 99 #[.slice (some ⟨b, off, none⟩) 1 cap] w fun e w' => e = .returned (S (sumP s)) ∧ Below w.heap.size w w' := by
  go_enter Tryz.func99, Tryz.ntmps99
  go_wp2_with fail
  go_loop [3, 4] (fun s3 s4 => ∃ k : Nat, k ≤ 1 ∧ s4 = .int .i64 k ∧ s3 = S (sumPart s k)) (fun _ k => 1 - (intOf k).toNat)
  case atStart => exact ⟨0, by omega, rfl, rfl⟩
  case round =>
    obtain ⟨k, hk, rfl, rfl⟩ := hrel
    by_cases hlt : k < 1
    · have hk0 : k = 0 := by omega
      subst hk0
      rw [show sumPart s 0 = [] from rfl]
      go_wp2
      go_round
      case rel => exact ⟨1, by omega, by go_num, rfl⟩
      case measure => simp [intOf]
    · have hk1 : k = 1 := by omega
      subst hk1
      rw [show sumPart s 1 = s from rfl]
      go_wp2_with fail
      refine (ref04_Digest s hs _).mono ?_
      rintro e w1 ⟨rfl, hb1⟩
      go_wp2
      go_ret
      exact ⟨rfl, hb1⟩
end Go.Proofs.YtcbmdghnlbieeaaGreatDoor
