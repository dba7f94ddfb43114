/-
  Walks of the reference's layer 4: Digest, Sum of one string.
-/
import Derived.Test.YtmapjaihkmjmmaaDoorBlkU
namespace Go.Proofs.YtmapjaihkmjmmaaDoor
open Go.RowKit

/-- Digest's memory: the words so far, in a block of the call's own. -/
structure DM (w : World) (B : Nat) (l : List Int) (X : World) : Prop where
  below : Below w.heap.size w X
  le : w.heap.size ≤ B
  lt : B < X.heap.size
  row_ : X.heap[B]? = some (.cells (row l) 71 (0, 0))
theorem DM.pass {w X X' : World} {B : Nat} {l : List Int} (h : DM w B l X) (hb : Below X.heap.size X X') : DM w B l X' :=
  ⟨h.below.trans (hb.mono h.below.size), h.le, Nat.lt_of_lt_of_le h.lt hb.size, (hb.block _ h.lt).trans h.row_⟩
theorem DM.set {w X : World} {B : Nat} {l l' : List Int} (h : DM w B l X) : DM w B l' (X.setRow B (row l')) :=
  ⟨below_setRow h.below h.le _, h.le, by simpa using h.lt, setRow_heap _ _ _ _ _ _ h.row_⟩

/-- Between two pieces, or behind the last. -/
def DgR (w : World) (B : Nat) (s : Bytes) (v4 v5 : Value) (X : World) : Prop :=
  (∃ i : Nat, i ≤ lastAt s ∧ 64 * i ≤ s.length ∧ v4 = .int .i64 (64 * (i : Int)) ∧ v5 = .bool false ∧ DM w B (hAt s i) X) ∨ (v4 = .int .i64 (s.length : Int) ∧ v5 = .bool true ∧ DM w B (sumWords s) X)
def bOf : Value → Nat
  | .bool true => 0
  | _ => 1

theorem out_step (G : List Int) (hG : G.length = 8) (q r : Nat) (hq : q < 8) (hr : r < 4) : (outTo G 8).take (4 * q + r + 1) = (outTo G 8).take (4 * q + r) ++ [(wordBytes (G.getD q 0)).getD r 0] := by
  obtain ⟨a, b, c, d, e, f, g, h, rfl⟩ := list8 hG
  rcases (show q = 0 ∨ q = 1 ∨ q = 2 ∨ q = 3 ∨ q = 4 ∨ q = 5 ∨ q = 6 ∨ q = 7 by omega) with rfl | rfl | rfl | rfl | rfl | rfl | rfl | rfl <;>
    rcases (show r = 0 ∨ r = 1 ∨ r = 2 ∨ r = 3 by omega) with rfl | rfl | rfl | rfl <;> rfl
theorem out_len (G : List Int) (hG : G.length = 8) : (outTo G 8).length = 32 := by
  obtain ⟨a, b, c, d, e, f, g, h, rfl⟩ := list8 hG
  rfl

set_option maxRecDepth 100000 in
set_option maxHeartbeats 2000000 in
theorem ref04_Digest (s : Bytes) (hs : s.length ≤ 140737488355328) (w : World) :
    Calls Tryd.prog 46 #[S s] w fun e w' => e = .returned (S (sumP s)) ∧ Below w.heap.size w w' := by
  go_enter Tryd.func46, Tryd.ntmps46
  go_wp2_with fail
  refine (ref04_Initial _).mono ?_
  rintro e w1 ⟨rfl, hb1⟩
  rw [show row blkIV = #[.int .u32 1779033703, .int .u32 3144134277, .int .u32 1013904242, .int .u32 2773480762, .int .u32 1359893119, .int .u32 2600822924, .int .u32 528734635, .int .u32 1541459225] from rfl]
  go_wp2_with fail
  go_loopw [4, 5] (fun s4 s5 wr => DgR w w1.heap.size s s4 s5 wr) (fun c d _ => (s.length - (intOf c).toNat) + bOf d)
  case atStart => exact .inl ⟨0, Nat.zero_le _, Nat.zero_le _, rfl, rfl, hb1.alloc hb1.size _, hb1.size, by simp, heap_alloc_new w1 (.cells (row sumStart) 71)⟩
  case round =>
    have hb1s := hb1.size
    clear hb1
    rcases hrel with ⟨i, hi, hil, rfl, rfl, hm⟩ | ⟨rfl, rfl, hm⟩
    · have Hm := Lib.hid hm
      clear hm
      by_cases hlt : i < lastAt s
      · have hgt : 64 * i + 64 < s.length := by unfold lastAt at hlt; omega
        have hi1 : i + 1 ≤ lastAt s := hlt
        clear hlt hi
        have hw1 : IntKind.i64.wrap ((s.length : Int) - 64 * (i : Int)) = (s.length : Int) - 64 * (i : Int) := IntWalk.i64_in _ (by omega)
        have hw2 : IntKind.i64.wrap (64 * (i : Int) + 64) = 64 * (i : Int) + 64 := IntWalk.i64_in _ (by omega)
        have hw3 : (0 : Int) ≤ 64 * (i : Int) := by omega
        have hw4 : (64 * (i : Int) + 64).toNat = 64 * i + 64 := by omega
        have hw5 : (64 * (i : Int)).toNat = 64 * i := by omega
        have hw6 : 64 * i + 64 - 64 * i = 64 := by omega
        have hd1 : decide (64 < (s.length : Int) - 64 * (i : Int)) = true := by simp; omega
        have Hat := Lib.hid (show compressP (hAt s i) ((s.drop (64 * i)).take 64) (64 * (i : Int) + 64) false = hAt s (i + 1) by rw [hAt, show ((64 * i + 64 : Nat) : Int) = 64 * (i : Int) + 64 by omega])
        have hbl : ((s.drop (64 * i)).take 64).length = 64 := by simp; omega
        have hc : ((64 * (i : Int) + 64) == (s.length : Int)) = false := by rw [beq_eq_false_iff_ne]; omega
        have hwu : IntKind.u64.wrap (64 * (i : Int) + 64) = 64 * (i : Int) + 64 := IntWalk.u64_in _ (by omega)
        go_wp2_with fail
        generalize (s.drop (64 * i)).take 64 = blk at Hat hbl ⊢
        have Hbl := Lib.hid hbl
        have hbl2 : 64 ≤ blk.length := by omega
        clear hbl
        go_loop [7] (fun s7 => s7 = S blk) (fun _ => 0)
        case atStart => rfl
        case round =>
          obtain rfl := hrel
          have hrow := Hm.out.row_
          have hl8 := hAt_length s i
          generalize hAt s i = F at hrow hl8 Hat
          have hi8 : (Tryd.prog.info? 71).map (·.size) = some (row F).size := by rw [row_size, hl8]; kernel_rfl
          have Hl8 := Lib.hid hl8
          clear hl8
          go_wp2_with (refine wpList_load_row rfl 71 _ rfl w1.heap.size rfl 71 (row F) (0, 0) _ hrow Tryd.underlying71 rfl hi8 ?_)
          refine (ref04_Compress F Hl8.out blk Hbl.out (64 * (i : Int) + 64) false _).mono ?_
          rintro e w3 ⟨rfl, hb3⟩
          have Hm3 := Lib.hid (Hm.out.pass hb3)
          have hr3 : w3.heap[w1.heap.size]? = some (.cells (row F) 71 (0, 0)) := (hb3.block _ Hm.out.lt).trans hrow
          rw [Hat.out]
          have hl9 := hAt_length s (i + 1)
          generalize hG : hAt s (i + 1) = G at hl9 ⊢
          have HG := Lib.hid hG
          have hi9 : (Tryd.prog.info? 71).map (·.size) = some (row G).size := by rw [row_size, hl9]; kernel_rfl
          have hz9 : (row F).size = (row G).size := by rw [row_size, row_size, Hl8.out, hl9]
          have ho9 : (row G).all (·.oneCell') = true := by simp [row, Value.oneCell']
          clear hb3 hrow hG hl9
          go_wp2_with (refine wpList_store_row rfl 71 _ _ rfl w1.heap.size (row G) rfl rfl 71 (row F) hr3 hi9 hz9 ho9 ?_)
          simp only [Act.put]
          go_roundw
          case rel => exact .inl ⟨i + 1, by omega, by omega, by go_num, rfl, by rw [HG.out]; exact Hm3.out.set⟩
          case measure => simp [intOf, bOf]; omega
      · have hie : i = lastAt s := by omega
        have hle : s.length ≤ 64 * i + 64 := by unfold lastAt at hie; omega
        obtain ⟨m, hm⟩ : ∃ m, s.length - 64 * i = m := ⟨_, rfl⟩
        have hmi : (s.length : Int) - 64 * (i : Int) = (m : Int) := by omega
        have hm64 : m ≤ 64 := by omega
        have Hsum := Lib.hid (show compressP (hAt s i) (s.drop (64 * i) ++ List.replicate (64 - m) 0) (s.length : Int) true = sumWords s by rw [sumWords, ← hie, hm])
        have hdr : (s.drop (64 * i)).length = m := by simp; omega
        have htk : (s.drop (64 * i)).take m = s.drop (64 * i) := List.take_of_length_le (by omega)
        have hw1 : IntKind.i64.wrap ((s.length : Int) - 64 * (i : Int)) = (m : Int) := by rw [hmi]; exact IntWalk.i64_in _ (by omega)
        have hw2 : IntKind.i64.wrap (64 * (i : Int) + (m : Int)) = (s.length : Int) := by rw [IntWalk.i64_in _ (by omega)]; omega
        have hw3 : (0 : Int) ≤ 64 * (i : Int) := by omega
        have hw5 : (64 * (i : Int)).toNat = 64 * i := by omega
        have hw7 : s.length - 64 * i = m := hm
        have hw8 : 64 * (i : Int) ≤ (s.length : Int) := by omega
        have hwu : IntKind.u64.wrap (s.length : Int) = (s.length : Int) := IntWalk.u64_in _ (by omega)
        clear hm hie hlt hmi hdr
        go_wp2_with fail
        generalize hblk : s.drop (64 * i) = blk at Hsum ⊢
        have hbl : blk.length = m := by rw [← hblk]; simp; omega
        clear hblk hw1 hw2 hw3 hw5 hw7 hw8
        have Hbl := Lib.hid hbl
        have hbl2 : blk.length ≤ 64 := by omega
        have hwc : ((s.length : Int) == (s.length : Int)) = true := beq_self_eq_true _
        clear hbl
        go_loop [7] (fun s7 => ∃ j : Nat, j + m ≤ 64 ∧ s7 = S (blk ++ List.replicate j 0)) (fun v => match v with | .string b => 64 - b.size | _ => 0)
        case atStart => exact ⟨0, by omega, by simp⟩
        case round =>
          obtain ⟨j, hj, rfl⟩ := hrel
          have hjl : (blk ++ List.replicate j (0 : UInt8)).length = m + j := by rw [List.length_append, List.length_replicate, Hbl.out]
          have Hjs := Lib.hid (show blk ++ List.replicate j (0 : UInt8) ++ [0] = blk ++ List.replicate (j + 1) 0 by rw [List.replicate_succ', List.append_assoc])
          have Hjl := Lib.hid hjl
          generalize hx : blk ++ List.replicate j (0 : UInt8) = x at hjl Hjs Hjl ⊢
          have Hx := Lib.hid hx
          clear hx
          by_cases hlt64 : j + m < 64
          · have hx64 : x.length < 64 := by omega
            clear hjl
            go_wp2
            go_round
            case rel => exact ⟨j + 1, by omega, by rw [Hjs.out]⟩
            case measure => simp [ByteArray.size]; omega
          · have hx64 : 64 ≤ x.length := by omega
            have Hx64 := Lib.hid (show x.length = 64 by omega)
            have Hxe := Lib.hid (show x = blk ++ List.replicate (64 - m) 0 by rw [← Hx.out, show 64 - m = j by omega])
            clear hjl
            have hrow := Hm.out.row_
            have hl8 := hAt_length s i
            generalize hAt s i = F at hrow hl8 Hsum
            have hi8 : (Tryd.prog.info? 71).map (·.size) = some (row F).size := by rw [row_size, hl8]; kernel_rfl
            have Hl8 := Lib.hid hl8
            clear hl8
            go_wp2_with (refine wpList_load_row rfl 71 _ rfl w1.heap.size rfl 71 (row F) (0, 0) _ hrow Tryd.underlying71 rfl hi8 ?_)
            refine (ref04_Compress F Hl8.out x Hx64.out (s.length : Int) true _).mono ?_
            rintro e w3 ⟨rfl, hb3⟩
            have Hm3 := Lib.hid (Hm.out.pass hb3)
            have hr3 : w3.heap[w1.heap.size]? = some (.cells (row F) 71 (0, 0)) := (hb3.block _ Hm.out.lt).trans hrow
            have hl9 : (compressP F x (s.length : Int) true).length = 8 := compressP_length ..
            generalize hG : compressP F x (s.length : Int) true = G at hl9 ⊢
            have HG := Lib.hid (show sumWords s = G by rw [← Hsum.out, ← Hxe.out, hG])
            have hi9 : (Tryd.prog.info? 71).map (·.size) = some (row G).size := by rw [row_size, hl9]; kernel_rfl
            have hz9 : (row F).size = (row G).size := by rw [row_size, row_size, Hl8.out, hl9]
            have ho9 : (row G).all (·.oneCell') = true := by simp [row, Value.oneCell']
            clear hb3 hrow hG hl9
            go_wp2_with (refine wpList_store_row rfl 71 _ _ rfl w1.heap.size (row G) rfl rfl 71 (row F) hr3 hi9 hz9 ho9 ?_)
            simp only [Act.put]
            go_roundw
            case rel => exact .inr ⟨rfl, rfl, by rw [HG.out]; exact Hm3.out.set⟩
            case measure => simp [intOf, bOf]
    · have Hm := Lib.hid hm
      clear hm
      have hlG : (sumWords s).length = 8 := compressP_length ..
      obtain ⟨G, hG⟩ : ∃ G, sumWords s = G := ⟨_, rfl⟩
      have HG := Lib.hid hG
      rw [hG] at hlG Hm
      clear hG
      go_wp2_with fail
      have hBs := Hm.out.lt
      have hown0 : OwnS tB 5 (fun _ => none) wr wr.heap.size (.slice none 0 0) ((outTo G 8).take 0) := OwnS.nil _ _ _ _ _
      have Hown0 := Lib.hid hown0
      have hB0 : w.heap.size ≤ wr.heap.size := Hm.out.below.size
      clear hown0 hb1s
      generalize hB0e : wr.heap.size = B0 at hBs Hown0 hB0
      have HB0e := Lib.hid (Nat.le_of_eq hB0e.symm)
      clear hB0e
      have hol := out_len G hlG
      generalize w1.heap.size = B at hBs Hm ⊢
      go_loopw [8, 9] (fun s8 s9 X => ∃ k : Nat, k ≤ 32 ∧ s9 = .int .i64 k ∧ OwnS tB 5 (fun _ => none) X B0 s8 ((outTo G 8).take k) ∧ X.heap[B]? = some (.cells (row G) 71 (0, 0)) ∧ Below w.heap.size w X ∧ B0 ≤ X.heap.size) (fun _ k _ => 32 - (intOf k).toNat)
      case atStart => exact ⟨0, Nat.zero_le _, rfl, Hown0.out, Hm.out.row_, Hm.out.below, HB0e.out⟩
      case round =>
        clear Hown0 Hm HB0e
        obtain ⟨k, hk, rfl, hown, hrow, hb, hsz⟩ := hrel
        have Hown := Lib.hid hown
        by_cases hlt : k < 32
        · obtain ⟨q, r, hq, hr, hkq⟩ : ∃ q r, q < 8 ∧ r < 4 ∧ k = 4 * q + r := ⟨k / 4, k % 4, by omega, by omega, by omega⟩
          have hdiv : (k : Int) / 4 = (q : Int) := by omega
          have hqi : (q : Int) < 8 := by omega
          have Hst := Lib.hid (show (outTo G 8).take (k + 1) = (outTo G 8).take k ++ [(wordBytes (G.getD q 0)).getD r 0] by rw [hkq]; exact out_step G hlG q r hq hr)
          have c0 := (cell_of_row wr _ q _ _ _ hrow).trans (row_at (l := G) (by omega))
          have hlk : ((outTo G 8).take k).length ≤ 32 := by rw [List.length_take]; omega
          have Hkq := Lib.hid hkq
          have Hrow := Lib.hid hrow
          clear hkq hown hrow hol
          generalize G.getD q 0 = x0 at c0 Hst
          rcases (show r = 0 ∨ r = 1 ∨ r = 2 ∨ r = 3 by omega) with rfl | rfl | rfl | rfl
          · have hmod : (k : Int) % 4 = 0 := by have := Hkq.out; omega
            go_wp2_with (at_builtin; refine wpList_append1 (w0 := wr) u8_elem rfl _ _ rfl _ _ _ rfl Hown.out (x0 % 256) [.int .u8 (x0 % 256)] _ rfl rfl (by omega) (by omega) hsz ?_)
            intro v5 w5 hown5 hg5
            have hb5 := Below.own hb hg5 Hown.out hB0 hsz
            have hr5 := (hg5.block B (by omega) (fun e => Hown.out.ne_lt hBs e.symm)).trans Hrow.out
            have hs5 := hg5.size
            have Hown5 := Lib.hid hown5
            have Hr5 := Lib.hid hr5
            clear hown5 hr5 hg5 Hown Hrow
            go_wp2
            go_roundw
            case rel => exact ⟨k + 1, by omega, by go_num, by rw [Hst.out]; exact Hown5.out, Hr5.out, hb5, by omega⟩
            case measure => simp [intOf]; omega
          · have hmod : (k : Int) % 4 = 1 := by have := Hkq.out; omega
            go_wp2_with (at_builtin; refine wpList_append1 (w0 := wr) u8_elem rfl _ _ rfl _ _ _ rfl Hown.out (x0 / 256 % 256) [.int .u8 (x0 / 256 % 256)] _ rfl rfl (by omega) (by omega) hsz ?_)
            intro v5 w5 hown5 hg5
            have hb5 := Below.own hb hg5 Hown.out hB0 hsz
            have hr5 := (hg5.block B (by omega) (fun e => Hown.out.ne_lt hBs e.symm)).trans Hrow.out
            have hs5 := hg5.size
            have Hown5 := Lib.hid hown5
            have Hr5 := Lib.hid hr5
            clear hown5 hr5 hg5 Hown Hrow
            go_wp2
            go_roundw
            case rel => exact ⟨k + 1, by omega, by go_num, by rw [Hst.out]; exact Hown5.out, Hr5.out, hb5, by omega⟩
            case measure => simp [intOf]; omega
          · have hmod : (k : Int) % 4 = 2 := by have := Hkq.out; omega
            go_wp2_with (at_builtin; refine wpList_append1 (w0 := wr) u8_elem rfl _ _ rfl _ _ _ rfl Hown.out (x0 / 65536 % 256) [.int .u8 (x0 / 65536 % 256)] _ rfl rfl (by omega) (by omega) hsz ?_)
            intro v5 w5 hown5 hg5
            have hb5 := Below.own hb hg5 Hown.out hB0 hsz
            have hr5 := (hg5.block B (by omega) (fun e => Hown.out.ne_lt hBs e.symm)).trans Hrow.out
            have hs5 := hg5.size
            have Hown5 := Lib.hid hown5
            have Hr5 := Lib.hid hr5
            clear hown5 hr5 hg5 Hown Hrow
            go_wp2
            go_roundw
            case rel => exact ⟨k + 1, by omega, by go_num, by rw [Hst.out]; exact Hown5.out, Hr5.out, hb5, by omega⟩
            case measure => simp [intOf]; omega
          · have hmod : (k : Int) % 4 = 3 := by have := Hkq.out; omega
            go_wp2_with (at_builtin; refine wpList_append1 (w0 := wr) u8_elem rfl _ _ rfl _ _ _ rfl Hown.out (x0 / 16777216 % 256) [.int .u8 (x0 / 16777216 % 256)] _ rfl rfl (by omega) (by omega) hsz ?_)
            intro v5 w5 hown5 hg5
            have hb5 := Below.own hb hg5 Hown.out hB0 hsz
            have hr5 := (hg5.block B (by omega) (fun e => Hown.out.ne_lt hBs e.symm)).trans Hrow.out
            have hs5 := hg5.size
            have Hown5 := Lib.hid hown5
            have Hr5 := Lib.hid hr5
            clear hown5 hr5 hg5 Hown Hrow
            go_wp2
            go_roundw
            case rel => exact ⟨k + 1, by omega, by go_num, by rw [Hst.out]; exact Hown5.out, Hr5.out, hb5, by omega⟩
            case measure => simp [intOf]; omega
        · have hke : k = 32 := by omega
          have hfull : (outTo G 8).take k = outTo G 8 := List.take_of_length_le (by omega)
          have hret : (outTo G 8).map (fun x => UInt8.ofNat x.toNat) = sumP s := by rw [sumP, HG.out]
          rw [hfull] at hown
          have hpos : 0 < (outTo G 8).length := by omega
          have hcv := conv_own (P := Tryd.prog) Tryd.underlying45 Tryd.underlying5 Tryd.underlying9 wr hown hpos
          rw [hret] at hcv
          clear hown hpos hke hfull hret hrow Hown hol hlG
          go_wp2
          go_ret
          exact ⟨rfl, hb⟩

def sumPart (s : Bytes) (k : Nat) : Bytes := if k = 0 then [] else s
set_option maxRecDepth 100000 in
set_option maxHeartbeats 400000 in
theorem ref04_Sum1 (b off cap : Nat) (s : Bytes) (hs : s.length ≤ 140737488355328) (w : World) (hc : w.cell? ⟨b, off, none⟩ = some (S s)) :
    Calls Tryd.prog 33 #[.slice (some ⟨b, off, none⟩) 1 cap] w fun e w' => e = .returned (S (sumP s)) ∧ Below w.heap.size w w' := by
  go_enter Tryd.func33, Tryd.ntmps33
  go_wp2_with fail
  go_loop [3, 4] (fun s3 s4 => ∃ k : Nat, k ≤ 1 ∧ s4 = .int .i64 k ∧ s3 = S (sumPart s k)) (fun _ k => 1 - (intOf k).toNat)
  case atStart => exact ⟨0, by omega, rfl, rfl⟩
  case round =>
    obtain ⟨k, hk, rfl, rfl⟩ := hrel
    by_cases hlt : k < 1
    · have hk0 : k = 0 := by omega
      subst hk0
      rw [show sumPart s 0 = [] from rfl]
      go_wp2
      go_round
      case rel => exact ⟨1, by omega, by go_num, rfl⟩
      case measure => simp [intOf]
    · have hk1 : k = 1 := by omega
      subst hk1
      rw [show sumPart s 1 = s from rfl]
      go_wp2_with fail
      refine (ref04_Digest s hs _).mono ?_
      rintro e w1 ⟨rfl, hb1⟩
      go_wp2
      go_ret
      exact ⟨rfl, hb1⟩
end Go.Proofs.YtmapjaihkmjmmaaDoor
