/-
  Walks of the reference's layer 31: Elements.
  Walks of the reference's layer 31: Component, path.
  Walks of the reference's layer 31: Check, Split, Parent, Under, Compare.
  Walks of the reference's layer 31: Under, Compare.
  Walks of the reference's layer 32: Great, Same, Key, Check, Get.
  Walks of the reference's layer 32: Key, Check, Get.
  Walks of the reference's layer 32: Check, Get, Remove.
-/
import Derived.Test.YtcbmdghnlbieeaaGreatDoorRows
import Derived.Test.YtcbmdghnlbieeaaGreatDoorZA
namespace Go.Proofs.YtcbmdghnlbieeaaGreatDoor
open Go.RowKit

/-- A byte of a string, as the walk reads it. -/
theorem run_at {P : Program} {t : TypeId} (h : P.underlying t = some .string) (s : Bytes) (i : Int) (j : Nat) (hi : i = (j : Int)) (hj : j < s.length) (W : World) : (Instr.index t (S s) (.int .i64 i)).run P W = .ok (.int .u8 ((s.getD j 0).toNat : Nat)) W := by
  subst hi
  rw [S, run_index_string W t _ .i64 _ h]
  have hsz : (⟨s.toArray⟩ : ByteArray).size = s.length := by simp [ByteArray.size]
  rw [dif_pos ⟨by omega, by rw [hsz]; omega⟩]
  have e : (⟨s.toArray⟩ : ByteArray)[((j : Nat) : Int).toNat]'(by rw [hsz]; simpa using hj) = s.getD j 0 := by
    simp [List.getD, List.getElem?_eq_getElem hj, ByteArray.getElem_eq_getElem_data]
  rw [e]

/-- Element i of a slice of strings, in the walk's spelling. -/
theorem strAt {I : IH} {v : Value} {l : List Bytes} {w : World} (h : RdS tStr I v l) (hw : Ok I w) (i : Nat) (hi : i < l.length) : ∃ s b off cap, l[i] = s ∧ v = .slice (some ⟨b, off, none⟩) l.length cap ∧
    w.cell? ⟨b, off + i, none⟩ = some (S s) := by
  obtain ⟨b, off, cap, cs, hv, hcs, hc⟩ := h.at_ hw hi
  have hcs' : cs = [S l[i]] := hcs
  subst hcs'
  have := hc 0 _ rfl
  exact ⟨_, b, off, cap, rfl, hv, by simpa [tStr, Ty.flat] using this⟩

theorem str_info : (Tryz.prog.info? 9).map (fun i => (i.zero, i.size, i.bytes)) = some (some (.string ⟨#[]⟩), 1, 16) := by kernel_rfl
theorem str_elem : ElemOk Tryz.prog 48 9 tStr 16 := ElemOk.of Tryz.underlying48 str_info rfl (by decide) rfl

theorem eq_u8 (c : UInt8) (n : Nat) (hn : n < 256) : (((c.toNat : Nat) : Int) == (n : Int)) = (c == UInt8.ofNat n) := by
  rw [Bool.eq_iff_iff, beq_iff_eq, beq_iff_eq]
  constructor
  · intro h
    have h' : c.toNat = n := by omega
    rw [← h']; simp
  · intro h; rw [h]; simp; omega

set_option maxRecDepth 100000 in
set_option maxHeartbeats 1000000 in
theorem ref31_Elements (I : IH) (s : Bytes) (hs : s.length ≤ 4294967280) (w : World) (hw : Ok I w) :
    Calls Tryz.prog 52 #[S s] w (RetS tStr I w (els s)) := by
  have hfr : ∀ b, w.heap.size ≤ b → I b = none := fun b hb => hw.fresh hb
  have Hfr := Lib.hid hfr
  clear hfr
  have Hst := Lib.hid (show OwnS tStr 9 I (w.alloc (.cells #[] 9)) w.heap.size (.slice (some ⟨w.heap.size, 0, none⟩) 0 0) [] from ⟨[], World.ownsRow_made w #[] 0 (Nat.le_refl _) (Nat.zero_le _) (by simp), LiesL.nil _ _⟩)
  by_cases h0 : s = []
  · have Hs := Lib.hid (show els s = [] by rw [h0]; rfl)
    have f1 : (s == []) = true := by rw [h0]; rfl
    have f2 : s.isEmpty = true := by rw [h0]; rfl
    have f3 : (!s.isEmpty) = false := by rw [h0]; rfl
    clear h0
    go_enter Tryz.func52, Tryz.ntmps52
    go_wp2
    go_ret
    obtain ⟨I', hI1, hI2, hI3, _⟩ := Hst.out.freeze (hw.alloc _) Hfr.out
    rw [Hs.out]
    exact ⟨_, I', rfl, (Below.refl _ _).alloc (Nat.le_refl _) _, hI1, hI2, hI3⟩
  · have Hs := Lib.hid (show els s = elsGo [] s by rw [els, if_neg h0])
    have f1 : (s == []) = false := by simpa using h0
    have f2 : s.isEmpty = false := by cases s <;> simp_all
    have f3 : (!s.isEmpty) = true := by rw [f2]; rfl
    clear h0
    go_enter Tryz.func52, Tryz.ntmps52
    go_wp2_with fail
    go_loopw [3, 4, 5] (fun s3 s4 s5 wr => ∃ (k : Nat) (out : List Bytes) (p : Bytes), k ≤ s.length ∧ s5 = .int .i64 k ∧ s4 = S p ∧ OwnS tStr 9 I wr w.heap.size s3 out ∧ out.length ≤ k ∧ p.length ≤ k ∧ out ++ elsGo p (s.drop k) = elsGo [] s ∧ Below w.heap.size w wr) (fun _ _ i _ => s.length - (intOf i).toNat)
    case atStart => exact ⟨0, [], [], Nat.zero_le _, rfl, rfl, Hst.out, Nat.le_refl _, Nat.le_refl _, rfl, (Below.refl _ _).alloc (Nat.le_refl _) _⟩
    case round =>
      clear Hst
      obtain ⟨k, out, p, hk, rfl, rfl, hown, hol, hpl, hr, hb⟩ := hrel
      have Hr := Lib.hid hr
      have Hown := Lib.hid hown
      have hwr : Ok I wr := hw.below (Nat.le_refl _) hb
      clear hr hown
      by_cases hlt : k < s.length
      · have hx := run_at Tryz.underlying9 s (k : Int) k rfl hlt
        have hd : s.drop k = s.getD k 0 :: s.drop (k + 1) := by rw [List.drop_eq_getElem_cons hlt]; simp [List.getD, hlt]
        have htk : (s.drop k).take 1 = [s.getD k 0] := by rw [hd]; rfl
        have Htk := Lib.hid htk
        have hst : elsGo [] s = out ++ (if s.getD k 0 == 47 then p :: elsGo [] (s.drop (k + 1)) else elsGo (p ++ [s.getD k 0]) (s.drop (k + 1))) := by rw [← Hr.out, hd]; rfl
        have he := eq_u8 (s.getD k 0) 47 (by decide)
        generalize hg : s.getD k 0 = ch at hx hst he Htk
        have Hst := Lib.hid hst
        clear hd htk hst hg
        have hw1 : IntKind.i64.wrap ((k : Int) + 1) = (k : Int) + 1 := IntWalk.i64_in _ (by omega)
        cases hc : (ch == 47)
        · rw [show (UInt8.ofNat 47) = 47 from rfl, hc] at he
          have Hnx := Lib.hid (show out ++ elsGo (p ++ [ch]) (s.drop (k + 1)) = elsGo [] s by rw [Hst.out, hc]; rfl)
          clear hc
          go_wp2
          go_roundw
          case rel => exact ⟨k + 1, out, p ++ [ch], by omega, by go_num, (by first | rfl | (simp [S, ← Htk.out]; done) | (congr; simp [← Htk.out])), Hown.out, by omega, (by simp; omega), Hnx.out, hb⟩
          case measure => simp [intOf]; omega
        · rw [show (UInt8.ofNat 47) = 47 from rfl, hc] at he
          have Hnx := Lib.hid (show (out ++ [p]) ++ elsGo [] (s.drop (k + 1)) = elsGo [] s by rw [Hst.out, hc]; simp)
          clear hc
          go_wp2_with (at_builtin; refine wpList_append1 (w0 := wr) str_elem rfl _ _ rfl _ _ _ rfl Hown.out p [S p] _ rfl rfl (by omega) (by omega) (Below.size hb) ?_)
          intro v9 w9 hown9 hg9
          have hb9 := Below.own hb hg9 Hown.out (Nat.le_refl _) (Below.size hb)
          go_wp2
          go_roundw
          case rel => exact ⟨k + 1, out ++ [p], [], by omega, by go_num, rfl, hown9, (by simp; omega), (by simp), Hnx.out, hb9⟩
          case measure => simp [intOf]; omega
      · have Hend := Lib.hid (show out ++ [p] = elsGo [] s by rw [← Hr.out, List.drop_of_length_le (by omega)]; rfl)
        go_wp2_with (at_builtin; refine wpList_append1 (w0 := wr) str_elem rfl _ _ rfl _ _ _ rfl Hown.out p [S p] _ rfl rfl (by omega) (by omega) (Below.size hb) ?_)
        intro v9 w9 hown9 hg9
        have hb9 := Below.own hb hg9 Hown.out (Nat.le_refl _) (Below.size hb)
        have hok9 : Ok I w9 := Ok.own hwr hg9 Hown.out Hfr.out
        have Hown9 := Lib.hid hown9
        clear hown9 hg9
        go_wp2
        go_ret
        obtain ⟨I', hI1, hI2, hI3, _⟩ := Hown9.out.freeze hok9 Hfr.out
        rw [Hs.out, ← Hend.out]
        exact ⟨_, I', rfl, hb9, hI1, hI2, hI3⟩
end Go.Proofs.YtcbmdghnlbieeaaGreatDoor
namespace Go.Proofs.YtcbmdghnlbieeaaGreatDoor
open Go.RowKit

theorem keyChar_nat2 (c : UInt8) : keyChar c = (decide (97 ≤ c.toNat) && decide (c.toNat ≤ 122) || decide (48 ≤ c.toNat) && decide (c.toNat ≤ 57) || decide (c.toNat = 46) || decide (c.toNat = 95) || decide (c.toNat = 45)) := by
  rw [keyChar_not, notAllowed, Bool.not_not]

set_option maxRecDepth 100000 in
set_option maxHeartbeats 1000000 in
theorem ref31_Component (s : Bytes) (hs : s.length ≤ 9223372036854775807) (w : World) :
    Calls Tryz.prog 88 #[S s] w fun e w' => e = .returned (.bool (comp s)) ∧ Below w.heap.size w w' := by
  by_cases h1 : 1 ≤ s.length
  case neg =>
    have hd1 : decide (0 < s.length) = false := decide_eq_false (by omega)
    have Hok := Lib.hid (show comp s = false by simp [comp, h1])
    go_enter Tryz.func88, Tryz.ntmps88
    go_wp2_with fail
    go_loop [3, 4] (fun s3 s4 => s3 = .bool false ∧ s4 = .int .i64 0) (fun _ _ => 0)
    case atStart => exact ⟨rfl, rfl⟩
    case round =>
      obtain ⟨rfl, rfl⟩ := hrel
      go_wp2
      go_ret
      exact ⟨ret_b Hok.out.symm, Below.refl _ _⟩
  have hd1 : decide (0 < s.length) = true := decide_eq_true (by omega)
  by_cases h32 : s.length ≤ 32
  case neg =>
    have hd2 : decide (s.length ≤ 32) = false := decide_eq_false h32
    have Hok := Lib.hid (show comp s = false by simp [comp, h32])
    go_enter Tryz.func88, Tryz.ntmps88
    go_wp2_with fail
    go_loop [3, 4] (fun s3 s4 => s3 = .bool false ∧ s4 = .int .i64 0) (fun _ _ => 0)
    case atStart => exact ⟨rfl, rfl⟩
    case round =>
      obtain ⟨rfl, rfl⟩ := hrel
      go_wp2
      go_ret
      exact ⟨ret_b Hok.out.symm, Below.refl _ _⟩
  have hd2 : decide (s.length ≤ 32) = true := decide_eq_true h32
  by_cases h46 : s = [46]
  case pos =>
    subst h46
    have Hok := Lib.hid (show comp [46] = false by rfl)
    clear hs h1 hd1 h32 hd2
    go_enter Tryz.func88, Tryz.ntmps88
    go_wp2_with fail
    go_loop [3, 4] (fun s3 s4 => s3 = .bool false ∧ s4 = .int .i64 0) (fun _ _ => 0)
    case atStart => exact ⟨rfl, rfl⟩
    case round =>
      obtain ⟨rfl, rfl⟩ := hrel
      go_wp2
      go_ret
      exact ⟨ret_b Hok.out.symm, Below.refl _ _⟩
  have f46 : (s != [46]) = true := by simpa using h46
  have g46 : (s == [46]) = false := by simpa using h46
  by_cases h47 : s = [46, 46]
  case pos =>
    subst h47
    have Hok := Lib.hid (show comp [46, 46] = false by rfl)
    clear hs h1 hd1 h32 hd2 h46 f46 g46
    go_enter Tryz.func88, Tryz.ntmps88
    go_wp2_with fail
    go_loop [3, 4] (fun s3 s4 => s3 = .bool false ∧ s4 = .int .i64 0) (fun _ _ => 0)
    case atStart => exact ⟨rfl, rfl⟩
    case round =>
      obtain ⟨rfl, rfl⟩ := hrel
      go_wp2
      go_ret
      exact ⟨ret_b Hok.out.symm, Below.refl _ _⟩
  have f47 : (s != [46, 46]) = true := by simpa using h47
  have g47 : (s == [46, 46]) = false := by simpa using h47
  have Hok := Lib.hid (show comp s = s.all keyChar by simp [comp, h1, h32, f46, f47])
  clear h46 h47
  go_enter Tryz.func88, Tryz.ntmps88
  go_wp2_with fail
  go_loop [3, 4] (fun s3 s4 => ∃ (k : Nat) (b : Bool), k ≤ s.length ∧ s4 = .int .i64 k ∧ s3 = .bool b ∧ (s.take k).all keyChar = b) (fun _ i => s.length - (intOf i).toNat)
  case atStart => exact ⟨0, true, Nat.zero_le _, rfl, rfl, rfl⟩
  case round =>
    obtain ⟨k, b, hk, rfl, rfl, hr⟩ := hrel
    have Hr := Lib.hid hr; clear hr
    cases b
    · have Hall := Lib.hid (show s.all keyChar = false by
        cases h : s.all keyChar with
        | false => rfl
        | true =>
          have : (s.take k).all keyChar = true := List.all_eq_true.2 fun x hx => List.all_eq_true.1 h x (List.mem_of_mem_take hx)
          rw [Hr.out] at this
          exact absurd this (by simp))
      go_wp2
      go_ret
      exact ⟨ret_b (by rw [Hok.out, Hall.out]), Below.refl _ _⟩
    · by_cases hlt : k < s.length
      · have hx := run_at Tryz.underlying9 s (k : Int) k rfl hlt
        have hkc := keyChar_nat2 (s.getD k 0)
        have Htk := Lib.hid (show s.take (k + 1) = s.take k ++ [s.getD k 0] by rw [List.take_succ_eq_append_getElem hlt]; simp [List.getD, hlt])
        have hc256 : (s.getD k 0).toNat < 256 := (s.getD k 0).toNat_lt
        generalize s.getD k 0 = ch at hkc Htk hx hc256
        generalize ch.toNat = c at hkc hx hc256
        rcases (show (97 ≤ c ∧ c ≤ 122) ∨ 122 < c ∨ (48 ≤ c ∧ c ≤ 57) ∨ c = 46 ∨ c = 95 ∨ c = 45 ∨ (c < 48 ∧ c ≠ 46 ∧ c ≠ 45) ∨ (57 < c ∧ c < 97 ∧ c ≠ 95) by omega) with hc | hc | hc | hc | hc | hc | hc | hc
        · have d97 : decide (97 ≤ (c : Int)) = true := by simp; omega
          have d122 : decide ((c : Int) ≤ 122) = true := by simp; omega
          have d48 : decide (48 ≤ (c : Int)) = true := by simp; omega
          have d57 : decide ((c : Int) ≤ 57) = false := by simp; omega
          have n46 : ((c : Int) == 46) = false := by simp; omega
          have n95 : ((c : Int) == 95) = false := by simp; omega
          have n45 : ((c : Int) == 45) = false := by simp; omega
          have Hkc := Lib.hid (show keyChar ch = true by rw [hkc]; simp; omega)
          clear hkc hc
          go_wp2
          go_round
          case rel => exact ⟨k + 1, true, by omega, by go_num, rfl, by rw [Htk.out, List.all_append, Hr.out]; simp [Hkc.out]⟩
          case measure => simp [intOf]; omega
        · have d97 : decide (97 ≤ (c : Int)) = true := by simp; omega
          have d122 : decide ((c : Int) ≤ 122) = false := by simp; omega
          have d48 : decide (48 ≤ (c : Int)) = true := by simp; omega
          have d57 : decide ((c : Int) ≤ 57) = false := by simp; omega
          have n46 : ((c : Int) == 46) = false := by simp; omega
          have n95 : ((c : Int) == 95) = false := by simp; omega
          have n45 : ((c : Int) == 45) = false := by simp; omega
          have Hkc := Lib.hid (show keyChar ch = false by rw [hkc]; simp; omega)
          clear hkc hc
          go_wp2
          go_round
          case rel => exact ⟨k + 1, false, by omega, by go_num, rfl, by rw [Htk.out, List.all_append, Hr.out]; simp [Hkc.out]⟩
          case measure => simp [intOf]; omega
        · have d97 : decide (97 ≤ (c : Int)) = false := by simp; omega
          have d122 : decide ((c : Int) ≤ 122) = true := by simp; omega
          have d48 : decide (48 ≤ (c : Int)) = true := by simp; omega
          have d57 : decide ((c : Int) ≤ 57) = true := by simp; omega
          have n46 : ((c : Int) == 46) = false := by simp; omega
          have n95 : ((c : Int) == 95) = false := by simp; omega
          have n45 : ((c : Int) == 45) = false := by simp; omega
          have Hkc := Lib.hid (show keyChar ch = true by rw [hkc]; simp; omega)
          clear hkc hc
          go_wp2
          go_round
          case rel => exact ⟨k + 1, true, by omega, by go_num, rfl, by rw [Htk.out, List.all_append, Hr.out]; simp [Hkc.out]⟩
          case measure => simp [intOf]; omega
        · have d97 : decide (97 ≤ (c : Int)) = false := by simp; omega
          have d122 : decide ((c : Int) ≤ 122) = true := by simp; omega
          have d48 : decide (48 ≤ (c : Int)) = false := by simp; omega
          have d57 : decide ((c : Int) ≤ 57) = true := by simp; omega
          have n46 : ((c : Int) == 46) = true := by simp; omega
          have n95 : ((c : Int) == 95) = false := by simp; omega
          have n45 : ((c : Int) == 45) = false := by simp; omega
          have Hkc := Lib.hid (show keyChar ch = true by rw [hkc]; simp; omega)
          clear hkc hc
          go_wp2
          go_round
          case rel => exact ⟨k + 1, true, by omega, by go_num, rfl, by rw [Htk.out, List.all_append, Hr.out]; simp [Hkc.out]⟩
          case measure => simp [intOf]; omega
        · have d97 : decide (97 ≤ (c : Int)) = false := by simp; omega
          have d122 : decide ((c : Int) ≤ 122) = true := by simp; omega
          have d48 : decide (48 ≤ (c : Int)) = true := by simp; omega
          have d57 : decide ((c : Int) ≤ 57) = false := by simp; omega
          have n46 : ((c : Int) == 46) = false := by simp; omega
          have n95 : ((c : Int) == 95) = true := by simp; omega
          have n45 : ((c : Int) == 45) = false := by simp; omega
          have Hkc := Lib.hid (show keyChar ch = true by rw [hkc]; simp; omega)
          clear hkc hc
          go_wp2
          go_round
          case rel => exact ⟨k + 1, true, by omega, by go_num, rfl, by rw [Htk.out, List.all_append, Hr.out]; simp [Hkc.out]⟩
          case measure => simp [intOf]; omega
        · have d97 : decide (97 ≤ (c : Int)) = false := by simp; omega
          have d122 : decide ((c : Int) ≤ 122) = true := by simp; omega
          have d48 : decide (48 ≤ (c : Int)) = false := by simp; omega
          have d57 : decide ((c : Int) ≤ 57) = true := by simp; omega
          have n46 : ((c : Int) == 46) = false := by simp; omega
          have n95 : ((c : Int) == 95) = false := by simp; omega
          have n45 : ((c : Int) == 45) = true := by simp; omega
          have Hkc := Lib.hid (show keyChar ch = true by rw [hkc]; simp; omega)
          clear hkc hc
          go_wp2
          go_round
          case rel => exact ⟨k + 1, true, by omega, by go_num, rfl, by rw [Htk.out, List.all_append, Hr.out]; simp [Hkc.out]⟩
          case measure => simp [intOf]; omega
        · have d97 : decide (97 ≤ (c : Int)) = false := by simp; omega
          have d122 : decide ((c : Int) ≤ 122) = true := by simp; omega
          have d48 : decide (48 ≤ (c : Int)) = false := by simp; omega
          have d57 : decide ((c : Int) ≤ 57) = true := by simp; omega
          have n46 : ((c : Int) == 46) = false := by simp; omega
          have n95 : ((c : Int) == 95) = false := by simp; omega
          have n45 : ((c : Int) == 45) = false := by simp; omega
          have Hkc := Lib.hid (show keyChar ch = false by rw [hkc]; simp; omega)
          clear hkc hc
          go_wp2
          go_round
          case rel => exact ⟨k + 1, false, by omega, by go_num, rfl, by rw [Htk.out, List.all_append, Hr.out]; simp [Hkc.out]⟩
          case measure => simp [intOf]; omega
        · have d97 : decide (97 ≤ (c : Int)) = false := by simp; omega
          have d122 : decide ((c : Int) ≤ 122) = true := by simp; omega
          have d48 : decide (48 ≤ (c : Int)) = true := by simp; omega
          have d57 : decide ((c : Int) ≤ 57) = false := by simp; omega
          have n46 : ((c : Int) == 46) = false := by simp; omega
          have n95 : ((c : Int) == 95) = false := by simp; omega
          have n45 : ((c : Int) == 45) = false := by simp; omega
          have Hkc := Lib.hid (show keyChar ch = false by rw [hkc]; simp; omega)
          clear hkc hc
          go_wp2
          go_round
          case rel => exact ⟨k + 1, false, by omega, by go_num, rfl, by rw [Htk.out, List.all_append, Hr.out]; simp [Hkc.out]⟩
          case measure => simp [intOf]; omega
      · have hall : s.take k = s := List.take_of_length_le (by omega)
        rw [hall] at Hr
        clear hall
        go_wp2
        go_ret
        exact ⟨ret_b (by rw [Hok.out, Hr.out]), Below.refl _ _⟩

theorem joinP_snoc {l : List Bytes} (q : Bytes) (h : l ≠ []) : joinP (l ++ [q]) = joinP l ++ 47 :: q := by
  induction l with
  | nil => exact absurd rfl h
  | cons p l ih =>
    cases l with
    | nil => rfl
    | cons r l =>
      rw [List.cons_append, joinP_cons p (by simp), joinP_cons p (by simp), ih (by simp)]
      simp

theorem joinP_append_le : ∀ (a b : List Bytes), (joinP a).length ≤ (joinP (a ++ b)).length
  | [], _ => Nat.zero_le _
  | [p], [] => Nat.le_refl _
  | [p], q :: b => by
    rw [List.singleton_append, show joinP [p] = p from rfl, joinP_cons p (show q :: b ≠ [] by simp)]
    simp
  | p :: q :: a, b => by
    have := joinP_append_le (q :: a) b
    rw [List.cons_append, joinP_cons p (by simp), joinP_cons p (by simp)]
    simp only [List.length_append, List.length_cons]
    omega
theorem joinP_take_le (l : List Bytes) (k : Nat) : (joinP (l.take k)).length ≤ (joinP l).length := by
  conv => rhs; rw [← List.take_append_drop k l]
  exact joinP_append_le _ _

set_option maxRecDepth 100000 in
set_option maxHeartbeats 400000 in
theorem ref31_path (I : IH) (v : Value) (l : List Bytes) (hv : RdS tStr I v l) (hj : (joinP l).length ≤ 4294967296) (w : World) (hw : Ok I w) :
    Calls Tryz.prog 87 #[v] w fun e w' => e = .returned (S (joinP l)) ∧ Below w.heap.size w w' := by
  have hlen := hv.len_le
  obtain ⟨ao, cap, rfl, hcap, hcm, _⟩ := id hv
  have Hv := Lib.hid hv; clear hv
  have Hj := Lib.hid hj
  go_enter Tryz.func87, Tryz.ntmps87
  go_wp2_with fail
  go_loopw [3, 4] (fun s3 s4 wr => ∃ (k : Nat) (p : Bytes), k ≤ l.length ∧ s4 = .int .i64 k ∧ s3 = S p ∧ joinP (l.take k) = p ∧ Below w.heap.size w wr) (fun _ i _ => l.length - (intOf i).toNat)
  case atStart => exact ⟨0, [], Nat.zero_le _, rfl, rfl, rfl, Below.refl _ _⟩
  case round =>
    obtain ⟨k, p, hk, rfl, rfl, hr, hb⟩ := hrel
    have Hr := Lib.hid hr; clear hr
    have hwr : Ok I wr := hw.below (Nat.le_refl _) hb
    by_cases hlt : k < l.length
    · obtain ⟨q, b, off, cap', hlq, hvv, hc⟩ := strAt Hv.out hwr k hlt
      cases hvv
      have Htk := Lib.hid (show l.take (k + 1) = l.take k ++ [q] by rw [List.take_succ_eq_append_getElem hlt, hlq])
      have hjk := joinP_take_le l (k + 1)
      have Hjk := Lib.hid hjk
      clear hlq hjk
      by_cases hk0 : k = 0
      · have hd : decide (0 < k) = false := decide_eq_false (by omega)
        have Hn := Lib.hid (show joinP (l.take (k + 1)) = p ++ q by rw [Htk.out, ← Hr.out, hk0]; simp [joinP])
        have hk1 : k < 1 := by omega
        have hpq : p.length + q.length ≤ 4294967296 := by have := Hjk.out; rw [Hn.out] at this; simp at this; omega
        clear hk0 hd
        go_wp2
        go_roundw
        case rel => exact ⟨k + 1, p ++ q, by omega, by go_num, (by first | rfl | simp), Hn.out, hb⟩
        case measure => simp [intOf]; omega
      · have hd : decide (0 < k) = true := decide_eq_true (by omega)
        have Hn := Lib.hid (show joinP (l.take (k + 1)) = p ++ [47] ++ q by
          rw [Htk.out, joinP_snoc q (fun e => by have := congrArg List.length e; rw [List.length_take] at this; simp only [List.length_nil] at this; omega), Hr.out]; simp)
        have hk1 : 0 < k := by omega
        have hpq : p.length + q.length + 1 ≤ 4294967296 := by have := Hjk.out; rw [Hn.out] at this; simp at this; omega
        clear hk0 hd
        go_wp2
        go_roundw
        case rel => exact ⟨k + 1, p ++ [47] ++ q, by omega, by go_num, (by first | rfl | simp), Hn.out, hb⟩
        case measure => simp [intOf]; omega
    · have Hn := Lib.hid (show joinP l = p by rw [← Hr.out, List.take_of_length_le (by omega)])
      go_wp2
      go_ret
      exact ⟨ret_s Hn.out.symm, hb⟩
end Go.Proofs.YtcbmdghnlbieeaaGreatDoor
namespace Go.Proofs.YtcbmdghnlbieeaaGreatDoor
open Go.RowKit

/-- The head of a slice. -/
theorem RdS.takeS {α : Type} {T : Ty α} {I : IH} {l : List α} {ao : Option Addr} {m cap : Nat} (h : RdS T I (.slice ao m cap) l) {n : Nat} (hn : n ≤ l.length) : RdS T I (.slice ao n cap) (l.take n) := by
  obtain ⟨ao', cap', e, h1, h2, h3⟩ := h
  injection e with e1 e2 e3
  subst e1 e3
  have hl : (l.take n).length = n := by rw [List.length_take, Nat.min_eq_left hn]
  refine ⟨_, _, by rw [hl], by omega, h2, fun h0 => ?_⟩
  obtain ⟨b, off, arr, k1, k2, k3⟩ := h3 (by omega)
  refine ⟨b, off, arr, k1, k2, fun i hi => ?_⟩
  obtain ⟨cs, c1, c2⟩ := k3 i (by omega)
  exact ⟨cs, by rw [List.getElem_take]; exact c1, c2⟩

theorem pathErr_cases (s : Bytes) : pathErr s = 0 ∨ pathErr s = 6 ∨ pathErr s = 7 := by
  unfold pathErr
  split
  · exact .inr (.inl rfl)
  · split
    · exact .inr (.inl rfl)
    · split
      · exact .inl rfl
      · exact .inr (.inr rfl)
theorem elsGo_len : ∀ (s p : Bytes) (q : Bytes), q ∈ elsGo p s → q.length ≤ p.length + s.length
  | [], p, q, h => by
    rw [elsGo] at h
    simp at h
    subst h
    simp
  | c :: s, p, q, h => by
    rw [elsGo] at h
    split at h
    · rcases List.mem_cons.1 h with rfl | h
      · simp only [List.length_cons]; omega
      · have := elsGo_len s [] q h
        simp only [List.length_cons, List.length_nil] at this ⊢
        omega
    · have := elsGo_len s _ q h
      simp only [List.length_append, List.length_cons, List.length_nil] at this ⊢
      omega
theorem els_len {s q : Bytes} (h : q ∈ els s) : q.length ≤ s.length := by
  unfold els at h
  split at h
  · exact absurd h (by simp)
  · have := elsGo_len s [] q h
    simpa using this

set_option maxRecDepth 100000 in
set_option maxHeartbeats 400000 in
theorem ref31_Check (I : IH) (s : Bytes) (w : World) (hw : Ok I w) :
    Calls Tryz.prog 51 #[S s] w fun e w' => e = .returned (.int .i64 (pathErr s)) ∧ Below w.heap.size w w' := by
  by_cases h200 : s.length ≤ 200
  case neg =>
    have hd : decide (200 < s.length) = true := decide_eq_true (by omega)
    have Hp := Lib.hid (show pathErr s = 6 by rw [pathErr, if_pos (by omega)])
    go_enter Tryz.func51, Tryz.ntmps51
    go_wp2
    go_ret
    exact ⟨ret_i Hp.out.symm, Below.refl _ _⟩
  have hd : decide (200 < s.length) = false := decide_eq_false (by omega)
  have Hel := Lib.hid (fun (q : Bytes) (h : q ∈ els s) => els_len h)
  have Hp := Lib.hid (show pathErr s = if 8 < (els s).length then 6 else if (els s).all comp then 0 else 7 by rw [pathErr, if_neg (by omega)])
  go_enter Tryz.func51, Tryz.ntmps51
  go_wp2_with fail
  refine (ref31_Elements I s (by omega) _ hw).mono ?_
  generalize els s = l at Hel Hp
  rintro e w1 ⟨v1, I1, rfl, hb1, hx1, hok1, hr1⟩
  obtain ⟨ao, cap, rfl, hcap, hcm, _⟩ := id hr1
  have Hr1 := Lib.hid hr1
  clear hr1 hx1
  by_cases h8 : l.length ≤ 8
  case neg =>
    have hd8 : decide (8 < l.length) = true := decide_eq_true (by omega)
    have Hp2 := Lib.hid (show pathErr s = 6 by rw [Hp.out, if_pos (by omega)])
    go_wp2
    go_ret
    exact ⟨ret_i Hp2.out.symm, hb1⟩
  have hd8 : decide (8 < l.length) = false := decide_eq_false (by omega)
  have Hp2 := Lib.hid (show pathErr s = if l.all comp then 0 else 7 by rw [Hp.out, if_neg (by omega)])
  go_wp2_with fail
  go_loopw [4] (fun s4 wr => ∃ k : Nat, k ≤ l.length ∧ s4 = .int .i64 k ∧ (l.take k).all comp = true ∧ Below w1.heap.size w1 wr) (fun i _ => l.length - (intOf i).toNat)
  case atStart => exact ⟨0, Nat.zero_le _, rfl, rfl, Below.refl _ _⟩
  case round =>
    obtain ⟨k, hk, rfl, hr, hb⟩ := hrel
    have Hr := Lib.hid hr; clear hr
    have hwr : Ok I1 wr := hok1.below (Nat.le_refl _) hb
    by_cases hlt : k < l.length
    · obtain ⟨q, b, off, cap', hlq, hvv, hc⟩ := strAt Hr1.out hwr k hlt
      cases hvv
      have hqm : q ∈ l := by rw [← hlq]; exact List.getElem_mem hlt
      have hql : q.length ≤ 9223372036854775807 := by have := Hel.out q hqm; omega
      have Hqm := Lib.hid hqm
      have Htk := Lib.hid (show l.take (k + 1) = l.take k ++ [q] by rw [List.take_succ_eq_append_getElem hlt, hlq])
      clear hlq hqm
      go_wp2_with fail
      refine (ref31_Component q hql _).mono ?_
      rintro e w2 ⟨rfl, hb2⟩
      have hb2' := hb.trans (hb2.mono hb.size)
      clear hb2
      cases hq : comp q
      · have Hn := Lib.hid (show pathErr s = 7 by
          rw [Hp2.out, if_neg]
          intro h
          rw [List.all_eq_true.1 h q Hqm.out] at hq
          exact absurd hq (by simp))
        clear hq
        go_wp2
        go_ret
        exact ⟨ret_i Hn.out.symm, hb1.trans (hb2'.mono hb1.size)⟩
      · have Hn := Lib.hid (show (l.take (k + 1)).all comp = true by rw [Htk.out, List.all_append, Hr.out]; simp [hq])
        clear hq
        go_wp2
        go_roundw
        case rel => exact ⟨k + 1, by omega, by go_num, Hn.out, hb2'⟩
        case measure => simp [intOf]; omega
    · have Hn := Lib.hid (show pathErr s = 0 by
        have := Hr.out
        rw [List.take_of_length_le (by omega)] at this
        rw [Hp2.out, if_pos this])
      go_wp2
      go_ret
      exact ⟨ret_i Hn.out.symm, hb1.trans (hb.mono hb1.size)⟩

/-- A path's parts, with an error. -/
def splP (s : Bytes) : List Bytes × Int := if pathErr s = 0 then (els s, 0) else ([], pathErr s)
theorem splP_ok {s : Bytes} (h : pathErr s = 0) : splP s = (els s, 0) := by rw [splP, if_pos h]
theorem splP_no {s : Bytes} (h : pathErr s ≠ 0) : splP s = ([], pathErr s) := by rw [splP, if_neg h]

set_option maxRecDepth 100000 in
set_option maxHeartbeats 400000 in
theorem ref31_Split (I : IH) (s : Bytes) (w : World) (hw : Ok I w) :
    Calls Tryz.prog 86 #[S s] w (RetL tStr I w (splP s).1 (splP s).2) := by
  have Hc := Lib.hid (ref31_Check I s w hw)
  by_cases h0 : pathErr s = 0
  · have hs := (pathErr_ok h0).1
    rw [h0] at Hc
    have Hspl := Lib.hid (splP_ok h0)
    clear h0
    go_enter Tryz.func86, Tryz.ntmps86
    go_wp2_with fail
    refine Hc.out.mono ?_
    rintro e w1 ⟨rfl, hb1⟩
    have hok1 : Ok I w1 := hw.below (Nat.le_refl _) hb1
    go_wp2_with fail
    refine (ref31_Elements I s (by omega) _ hok1).mono ?_
    rintro e w2 ⟨v2, I2, rfl, hb2, hx2, hok2, hr2⟩
    go_wp2
    go_ret2
    rw [Hspl.out]
    exact ⟨v2, I2, rfl, hb1.trans (hb2.mono hb1.size), hx2.mono hb1.size, hok2, hr2⟩
  · have Hspl := Lib.hid (splP_no h0)
    obtain ⟨q, hq⟩ : ∃ q, pathErr s = q := ⟨_, rfl⟩
    have hn : (q != 0) = true := by rw [← hq]; simpa using h0
    rw [hq] at Hspl Hc
    clear hq h0
    go_enter Tryz.func86, Tryz.ntmps86
    go_wp2_with fail
    refine Hc.out.mono ?_
    rintro e w1 ⟨rfl, hb1⟩
    have hok1 : Ok I w1 := hw.below (Nat.le_refl _) hb1
    go_wp2
    go_ret2
    rw [Hspl.out]
    exact ⟨_, I, rfl, hb1, Ext.refl _ _, hok1, RdS.nil _ _⟩

/-- What lies above a path, with an error. -/
def parP (s : Bytes) : Bytes × Int := if pathErr s ≠ 0 then ([], pathErr s) else if s = [] then ([], 1) else (upP s, 0)

set_option maxRecDepth 100000 in
set_option maxHeartbeats 400000 in
theorem ref31_Parent (I : IH) (s : Bytes) (w : World) (hw : Ok I w) :
    Calls Tryz.prog 48 #[S s] w fun e w' => e = .returned (.tuple #[S (parP s).1, .int .i64 (parP s).2]) ∧ Below w.heap.size w w' := by
  by_cases h0 : pathErr s = 0
  · have Hsp := Lib.hid (fun w hw => by have := ref31_Split I s w hw; rw [splP_ok h0] at this; exact this)
    have hs := (pathErr_ok h0).1
    have Hpp := Lib.hid (show parP s = if s = [] then ([], 1) else (upP s, 0) by rw [parP, if_neg (by omega)])
    have hjl : (joinP (els s)).length ≤ 200 := by rw [joinP_els]; exact hs
    have hel := els_nil (s := s)
    have hup : upP s = joinP ((els s).take ((els s).length - 1)) := by rw [upP, List.dropLast_eq_take]
    have Hjt := Lib.hid (joinP_take_le (els s) ((els s).length - 1))
    generalize els s = l at Hsp hjl hel hup Hjt
    have Hel := Lib.hid hel
    have Hup := Lib.hid hup
    clear h0 hel hup
    go_enter Tryz.func48, Tryz.ntmps48
    go_wp2_with fail
    refine (Hsp.out _ hw).mono ?_
    rintro e w1 ⟨v1, I1, rfl, hb1, hx1, hok1, hr1⟩
    obtain ⟨ao, cap, rfl, hcap, hcm, _⟩ := id hr1
    have Hr1 := Lib.hid hr1
    clear hr1 hx1
    have hml : maxLen = 9223372036854775807 := rfl
    by_cases hl0 : l.length = 0
    · have Hn := Lib.hid (show parP s = ([], 1) by rw [Hpp.out, if_pos (Hel.out.1 (List.eq_nil_of_length_eq_zero hl0))])
      have hz : ((l.length : Int) == 0) = true := by rw [hl0]; rfl
      clear hl0 hml
      go_wp2
      go_ret2
      rw [Hn.out]
      exact ⟨rfl, hb1⟩
    · have Hn := Lib.hid (show parP s = (joinP (l.take (l.length - 1)), 0) by
        rw [Hpp.out, if_neg (fun e => hl0 (by rw [Hel.out.2 e]; rfl)), Hup.out])
      have hz : ((l.length : Int) == 0) = false := by rw [beq_eq_false_iff_ne]; omega
      have hlp : 1 ≤ l.length := by omega
      have hi : IntKind.i64.wrap ((l.length : Int) - 1) = (l.length : Int) - 1 := IntWalk.i64_in _ (by omega)
      have hj : (0 : Int) ≤ (l.length : Int) - 1 := by omega
      have hj2 : (l.length : Int) - 1 ≤ (cap : Int) := by omega
      have hm : ((l.length : Int) - 1).toNat = l.length - 1 := by omega
      have Hr2 := Lib.hid (Hr1.out.takeS (n := l.length - 1) (by omega))
      have Hj2 := Lib.hid (show (joinP (l.take (l.length - 1))).length ≤ 4294967296 by have := Hjt.out; omega)
      clear hl0 hml
      go_wp2_with fail
      refine (ref31_path I1 _ _ Hr2.out Hj2.out _ hok1).mono ?_
      rintro e w2 ⟨rfl, hb2⟩
      go_wp2
      go_ret2
      rw [Hn.out]
      exact ⟨rfl, hb1.trans (hb2.mono hb1.size)⟩
  · have Hsp := Lib.hid (fun w hw => by have := ref31_Split I s w hw; rw [splP_no h0] at this; exact this)
    obtain ⟨q, hq⟩ : ∃ q, pathErr s = q := ⟨_, rfl⟩
    have hn : (q != 0) = true := by rw [← hq]; simpa using h0
    have Hpp := Lib.hid (show parP s = ([], q) by rw [parP, if_pos h0, hq])
    rw [hq] at Hsp
    clear hq h0
    go_enter Tryz.func48, Tryz.ntmps48
    go_wp2_with fail
    refine (Hsp.out _ hw).mono ?_
    rintro e w1 ⟨v1, I1, rfl, hb1, hx1, hok1, hr1⟩
    obtain ⟨ao, cap, rfl, hcap, hcm, _⟩ := id hr1
    go_wp2
    go_ret2
    rw [Hpp.out]
    exact ⟨rfl, hb1⟩
end Go.Proofs.YtcbmdghnlbieeaaGreatDoor
namespace Go.Proofs.YtcbmdghnlbieeaaGreatDoor
open Go.RowKit

theorem prefix_take (l d : List Bytes) : d.isPrefixOf l = decide (l.take d.length = d) := by
  rw [Bool.eq_iff_iff, List.isPrefixOf_iff_prefix, decide_eq_true_iff, List.prefix_iff_eq_take]
  exact ⟨fun h => h.symm, fun h => h.symm⟩
theorem prefix_short {l d : List Bytes} (h : l.length < d.length) : d.isPrefixOf l = false := by
  cases hp : d.isPrefixOf l with
  | false => rfl
  | true => have := (List.isPrefixOf_iff_prefix.1 hp).length_le; omega

set_option maxRecDepth 100000 in
set_option maxHeartbeats 1000000 in
theorem ref31_Under (I : IH) (p d : Bytes) (w : World) (hw : Ok I w) :
    Calls Tryz.prog 18 #[S p, S d] w fun e w' => e = .returned (.bool (under p d)) ∧ Below w.heap.size w w' := by
  have Hcp := Lib.hid (fun w hw => ref31_Check I p w hw)
  have Hcd := Lib.hid (fun w hw => ref31_Check I d w hw)
  by_cases h0 : pathErr p = 0
  case neg =>
    have Hu := Lib.hid (show under p d = false by rw [under, decide_eq_false h0]; rfl)
    obtain ⟨q, hq⟩ : ∃ q, pathErr p = q := ⟨_, rfl⟩
    have hn : (q != 0) = true := by rw [← hq]; simpa using h0
    rw [hq] at Hcp
    clear hq h0
    go_enter Tryz.func18, Tryz.ntmps18
    go_wp2_with fail
    refine (Hcp.out _ hw).mono ?_
    rintro e w1 ⟨rfl, hb1⟩
    go_wp2
    go_ret
    exact ⟨ret_b Hu.out.symm, hb1⟩
  by_cases h1 : pathErr d = 0
  case neg =>
    have Hu := Lib.hid (show under p d = false by rw [under, decide_eq_false h1, Bool.and_false]; rfl)
    obtain ⟨q, hq⟩ : ∃ q, pathErr d = q := ⟨_, rfl⟩
    have hn : (q != 0) = true := by rw [← hq]; simpa using h1
    rw [hq] at Hcd
    rw [h0] at Hcp
    clear hq h1 h0
    go_enter Tryz.func18, Tryz.ntmps18
    go_wp2_with fail
    refine (Hcp.out _ hw).mono ?_
    rintro e w1 ⟨rfl, hb1⟩
    go_wp2_with fail
    refine (Hcd.out _ (hw.below (Nat.le_refl _) hb1)).mono ?_
    rintro e w2 ⟨rfl, hb2⟩
    go_wp2
    go_ret
    exact ⟨ret_b Hu.out.symm, hb1.trans (hb2.mono hb1.size)⟩
  have hp := (pathErr_ok h0).1
  have hd := (pathErr_ok h1).1
  have Hu := Lib.hid (show under p d = (els d).isPrefixOf (els p) by rw [under, decide_eq_true h0, decide_eq_true h1]; rfl)
  have Hep := Lib.hid (fun I w hw => ref31_Elements I p (by omega) w hw)
  have Hed := Lib.hid (fun I w hw => ref31_Elements I d (by omega) w hw)
  rw [h0] at Hcp
  rw [h1] at Hcd
  generalize els p = l at Hu Hep
  generalize els d = m at Hu Hed
  clear h0 h1
  go_enter Tryz.func18, Tryz.ntmps18
  go_wp2_with fail
  refine (Hcp.out _ hw).mono ?_
  rintro e w1 ⟨rfl, hb1⟩
  have hok1 : Ok I w1 := hw.below (Nat.le_refl _) hb1
  go_wp2_with fail
  refine (Hcd.out _ hok1).mono ?_
  rintro e w2 ⟨rfl, hb2⟩
  have hok2 : Ok I w2 := hok1.below (Nat.le_refl _) hb2
  have hb2' := hb1.trans (hb2.mono hb1.size)
  clear hb1 hb2
  go_wp2_with fail
  refine (Hep.out I _ hok2).mono ?_
  rintro e w3 ⟨v3, I3, rfl, hb3, hx3, hok3, hr3⟩
  have hb3' := hb2'.trans (hb3.mono hb2'.size)
  have Hr3 := Lib.hid hr3
  clear hr3 hb3
  go_wp2_with fail
  refine (Hed.out I3 _ hok3).mono ?_
  rintro e w4 ⟨v4, I4, rfl, hb4, hx4, hok4, hr4⟩
  have hb4' := hb3'.trans (hb4.mono hb3'.size)
  have hr3 := Hr3.out.mono (hx4.keep hok3 (Nat.le_refl _))
  have hlen := hr3.len_le
  have hlen2 := hr4.len_le
  obtain ⟨ao, cap, rfl, hcap, hcm, _⟩ := id hr3
  obtain ⟨ao2, cap2, rfl, hcap2, hcm2, _⟩ := id hr4
  have Hl := Lib.hid hr3
  have Hm := Lib.hid hr4
  clear hr3 hr4 Hr3 hb4 hx4 hx3 hok3 hb2' hb3'
  by_cases hlm : m.length ≤ l.length
  case neg =>
    have hn : decide (l.length < m.length) = true := decide_eq_true (by omega)
    have Hu2 := Lib.hid (show under p d = false by rw [Hu.out]; exact prefix_short (by omega))
    go_wp2
    go_ret
    exact ⟨ret_b Hu2.out.symm, hb4'⟩
  have hn : decide (l.length < m.length) = false := decide_eq_false (by omega)
  have Hu2 := Lib.hid (show under p d = decide (l.take m.length = m) by rw [Hu.out]; exact prefix_take l m)
  have HB := Lib.hid hb4'
  clear hb4'
  go_wp2_with fail
  go_loopw [7] (fun s7 wr => ∃ k : Nat, k ≤ m.length ∧ s7 = .int .i64 k ∧ l.take k = m.take k ∧ Below w4.heap.size w4 wr) (fun i _ => m.length - (intOf i).toNat)
  case atStart => exact ⟨0, Nat.zero_le _, rfl, rfl, Below.refl _ _⟩
  case round =>
    obtain ⟨k, hk, rfl, hr, hb⟩ := hrel
    have Hr := Lib.hid hr; clear hr
    have hwr : Ok I4 wr := hok4.below (Nat.le_refl _) hb
    by_cases hlt : k < m.length
    · obtain ⟨x, b, off, cap', hlx, hvv, hx0⟩ := strAt Hl.out hwr k (by omega)
      cases hvv
      obtain ⟨y, b', off', cap'', hly, hvv, hy0⟩ := strAt Hm.out hwr k hlt
      cases hvv
      have Hlx := Lib.hid hlx
      have Hly := Lib.hid hly
      have hlt2 : k < l.length := by omega
      have g0 := cell_regrown hx0
      have g1 := cell_regrown hy0
      clear hlx hly
      by_cases hxy : x = y
      · have f1 : (x != y) = false := by simp [hxy]
        have f2 : (x == y) = true := by simp [hxy]
        have Hn := Lib.hid (show l.take (k + 1) = m.take (k + 1) by rw [List.take_succ_eq_append_getElem hlt2, List.take_succ_eq_append_getElem hlt, Hr.out, Hlx.out, Hly.out, hxy])
        clear hxy
        go_wp2_with fail
        refine wp_region_quiet_below (by kernel_rfl) (by kernel_rfl) ?_
        repeat (go_big_quiet_step ((fail)))
        refine wpQuiet_nil ?_
        intro w5 hwq
        have hb5 : Below (wr).heap.size (wr) w5 := by
          obtain ⟨pq, rfl⟩ := hwq
          exact below_regrown _ _ _
        clear hwq
        go_wp2
        go_roundw
        case rel => exact ⟨k + 1, by omega, by go_num, Hn.out, hb.trans (hb5.mono hb.size)⟩
        case measure => simp [intOf]; omega
      · have f1 : (x != y) = true := by simpa using hxy
        have f2 : (x == y) = false := by simpa using hxy
        have Hn := Lib.hid (show under p d = false by
          rw [Hu2.out, decide_eq_false]
          intro h
          apply hxy
          rw [← Hlx.out, ← Hly.out]
          have := congrArg (fun z => z[k]?) h
          simp only [List.getElem?_take_of_lt hlt] at this
          rw [List.getElem?_eq_getElem hlt2, List.getElem?_eq_getElem hlt] at this
          exact Option.some.inj this)
        clear hxy
        go_wp2_with fail
        refine wp_region_quiet_below (by kernel_rfl) (by kernel_rfl) ?_
        repeat (go_big_quiet_step ((fail)))
        refine wpQuiet_nil ?_
        intro w5 hwq
        have hb5 : Below (wr).heap.size (wr) w5 := by
          obtain ⟨pq, rfl⟩ := hwq
          exact below_regrown _ _ _
        clear hwq
        go_wp2
        go_ret
        exact ⟨ret_b Hn.out.symm, HB.out.trans ((hb.trans (hb5.mono hb.size)).mono HB.out.size)⟩
    · have Hn := Lib.hid (show under p d = true by
        have := Hr.out
        rw [show k = m.length by omega, List.take_of_length_le (l := m) (Nat.le_refl _)] at this
        rw [Hu2.out, decide_eq_true this])
      go_wp2
      go_ret
      exact ⟨ret_b Hn.out.symm, HB.out.trans (hb.mono HB.out.size)⟩

set_option maxRecDepth 100000 in
set_option maxHeartbeats 1000000 in
theorem ref31_Compare (I : IH) (p d : Bytes) (hp : p.length ≤ 4294967280) (hd : d.length ≤ 4294967280) (w : World) (hw : Ok I w) :
    Calls Tryz.prog 50 #[S p, S d] w fun e w' => e = .returned (.int .i64 (cmpP p d)) ∧ Below w.heap.size w w' := by
  have Hu := Lib.hid (cmpP_eq p d)
  have Hep := Lib.hid (fun I w hw => ref31_Elements I p hp w hw)
  have Hed := Lib.hid (fun I w hw => ref31_Elements I d hd w hw)
  generalize els p = l at Hu Hep
  generalize els d = m at Hu Hed
  go_enter Tryz.func50, Tryz.ntmps50
  go_wp2_with fail
  refine (Hep.out I _ hw).mono ?_
  rintro e w3 ⟨v3, I3, rfl, hb3, hx3, hok3, hr3⟩
  have Hr3 := Lib.hid hr3
  clear hr3
  go_wp2_with fail
  refine (Hed.out I3 _ hok3).mono ?_
  rintro e w4 ⟨v4, I4, rfl, hb4, hx4, hok4, hr4⟩
  have HB := Lib.hid (hb3.trans (hb4.mono hb3.size))
  have hr3 := Hr3.out.mono (hx4.keep hok3 (Nat.le_refl _))
  have hlen := hr3.len_le
  have hlen2 := hr4.len_le
  obtain ⟨ao, cap, rfl, hcap, hcm, _⟩ := id hr3
  obtain ⟨ao2, cap2, rfl, hcap2, hcm2, _⟩ := id hr4
  have Hl := Lib.hid hr3
  have Hm := Lib.hid hr4
  clear hr3 hr4 Hr3 hb4 hx4 hx3 hok3 hb3
  go_wp2_with fail
  go_loopw [7] (fun s7 wr => ∃ k : Nat, k ≤ l.length ∧ k ≤ m.length ∧ s7 = .int .i64 k ∧ l.take k = m.take k ∧ Below w4.heap.size w4 wr) (fun i _ => m.length - (intOf i).toNat)
  case atStart => exact ⟨0, Nat.zero_le _, Nat.zero_le _, rfl, rfl, Below.refl _ _⟩
  case round =>
    obtain ⟨k, hk, hk2, rfl, hr, hb⟩ := hrel
    have Hr := Lib.hid hr
    have Hcd := Lib.hid (cmpL_drop hr hk hk2)
    clear hr
    have hwr : Ok I4 wr := hok4.below (Nat.le_refl _) hb
    by_cases hlt : k < l.length
    case neg =>
      have Hdl := Lib.hid (show l.drop k = [] from List.drop_of_length_le (by omega))
      by_cases hlt2 : k < m.length
      · have hd1 : decide (l.length < m.length) = true := decide_eq_true (by omega)
        have Hn := Lib.hid (show cmpP p d = -1 by rw [Hu.out, Hcd.out, Hdl.out, List.drop_eq_getElem_cons hlt2]; rfl)
        go_wp2
        go_ret
        exact ⟨ret_i Hn.out.symm, HB.out.trans (hb.mono HB.out.size)⟩
      · have hd1 : decide (l.length < m.length) = false := decide_eq_false (by omega)
        have hd2 : decide (m.length < l.length) = false := decide_eq_false (by omega)
        have Hn := Lib.hid (show cmpP p d = 0 by rw [Hu.out, Hcd.out, Hdl.out, List.drop_of_length_le (by omega)]; rfl)
        go_wp2
        go_ret
        exact ⟨ret_i Hn.out.symm, HB.out.trans (hb.mono HB.out.size)⟩
    by_cases hlt2 : k < m.length
    case neg =>
      have hd1 : decide (l.length < m.length) = false := decide_eq_false (by omega)
      have hd2 : decide (m.length < l.length) = true := decide_eq_true (by omega)
      have Hn := Lib.hid (show cmpP p d = 1 by rw [Hu.out, Hcd.out, List.drop_of_length_le (l := m) (by omega), List.drop_eq_getElem_cons hlt]; rfl)
      go_wp2
      go_ret
      exact ⟨ret_i Hn.out.symm, HB.out.trans (hb.mono HB.out.size)⟩
    obtain ⟨x, b, off, cap', hlx, hvv, hx0⟩ := strAt Hl.out hwr k hlt
    cases hvv
    obtain ⟨y, b', off', cap'', hly, hvv, hy0⟩ := strAt Hm.out hwr k hlt2
    cases hvv
    have Hcd2 := Lib.hid (show cmpP p d = cmpL (x :: l.drop (k + 1)) (y :: m.drop (k + 1)) by rw [Hu.out, Hcd.out, List.drop_eq_getElem_cons hlt, List.drop_eq_getElem_cons hlt2, hlx, hly])
    have Hlx := Lib.hid hlx
    have Hly := Lib.hid hly
    have g0 := cell_regrown hx0
    have g1 := cell_regrown hy0
    clear hlx hly
    rcases bl_total x y with ht | ht | ht
    · have Hn := Lib.hid (show cmpP p d = -1 by rw [Hcd2.out]; exact cmpL_cons_lt ht _ _)
      go_wp2_with fail
      refine wp_region_quiet_below (by kernel_rfl) (by kernel_rfl) ?_
      repeat (go_big_quiet_step ((fail)))
      refine wpQuiet_nil ?_
      intro w5 hwq
      have hb5 : Below (wr).heap.size (wr) w5 := by
        obtain ⟨pq, rfl⟩ := hwq
        exact below_regrown _ _ _
      clear hwq
      go_wp2
      go_ret
      exact ⟨ret_i Hn.out.symm, HB.out.trans ((hb.trans (hb5.mono hb.size)).mono HB.out.size)⟩
    · have f1 : Op.bytesLess x y = false := by rw [ht]; exact bl_irrefl _
      have f2 : Op.bytesLess y x = false := by rw [ht]; exact bl_irrefl _
      have f3 : (x == y) = true := by simp [ht]
      have f4 : (!(x == y)) = false := by simp [ht]
      have Hn := Lib.hid (show l.take (k + 1) = m.take (k + 1) by rw [List.take_succ_eq_append_getElem hlt, List.take_succ_eq_append_getElem hlt2, Hr.out, Hlx.out, Hly.out, ht])
      clear ht
      go_wp2_with fail
      refine wp_region_quiet_below (by kernel_rfl) (by kernel_rfl) ?_
      repeat (go_big_quiet_step ((fail)))
      refine wpQuiet_nil ?_
      intro w5 hwq
      have hb5 : Below (wr).heap.size (wr) w5 := by
        obtain ⟨pq, rfl⟩ := hwq
        exact below_regrown _ _ _
      clear hwq
      have hb5' := hb.trans (hb5.mono hb.size)
      have hx1 := cell_thru hb5 hx0
      have hy1 := cell_thru hb5 hy0
      have g0 := cell_regrown hx1
      have g1 := cell_regrown hy1
      clear hb5 hx0 hy0
      go_wp2_with fail
      refine wp_region_quiet_below (by kernel_rfl) (by kernel_rfl) ?_
      repeat (go_big_quiet_step ((fail)))
      refine wpQuiet_nil ?_
      intro w6 hwq
      have hb6 : Below (w5).heap.size (w5) w6 := by
        obtain ⟨pq, rfl⟩ := hwq
        exact below_regrown _ _ _
      clear hwq
      go_wp2
      go_roundw
      case rel => exact ⟨k + 1, by omega, by omega, by go_num, Hn.out, hb5'.trans (hb6.mono hb5'.size)⟩
      case measure => simp [intOf]; omega
    · have f1 := bl_asymm ht
      have f3 : (x == y) = false := by simpa using (bl_ne ht).symm
      have f4 : (!(x == y)) = true := by rw [f3]; rfl
      have Hn := Lib.hid (show cmpP p d = 1 by rw [Hcd2.out]; exact cmpL_cons_gt ht _ _)
      go_wp2_with fail
      refine wp_region_quiet_below (by kernel_rfl) (by kernel_rfl) ?_
      repeat (go_big_quiet_step ((fail)))
      refine wpQuiet_nil ?_
      intro w5 hwq
      have hb5 : Below (wr).heap.size (wr) w5 := by
        obtain ⟨pq, rfl⟩ := hwq
        exact below_regrown _ _ _
      clear hwq
      have hb5' := hb.trans (hb5.mono hb.size)
      have hx1 := cell_thru hb5 hx0
      have hy1 := cell_thru hb5 hy0
      have g0 := cell_regrown hx1
      have g1 := cell_regrown hy1
      clear hb5 hx0 hy0
      go_wp2_with fail
      refine wp_region_quiet_below (by kernel_rfl) (by kernel_rfl) ?_
      repeat (go_big_quiet_step ((fail)))
      refine wpQuiet_nil ?_
      intro w6 hwq
      have hb6 : Below (w5).heap.size (w5) w6 := by
        obtain ⟨pq, rfl⟩ := hwq
        exact below_regrown _ _ _
      clear hwq
      go_wp2
      go_ret
      exact ⟨ret_i Hn.out.symm, HB.out.trans ((hb5'.trans (hb6.mono hb5'.size)).mono HB.out.size)⟩
end Go.Proofs.YtcbmdghnlbieeaaGreatDoor
namespace Go.Proofs.YtcbmdghnlbieeaaGreatDoor
open Go.RowKit

def bigA (x : At) : Bool := decide (100 < x.k.length) || decide (100 < x.v.length)
def greatA (l : List At) : Int := if 30 < l.length then 1 else if l.any bigA then 1 else 0

set_option maxRecDepth 100000 in
set_option maxHeartbeats 400000 in
theorem ref32_Great (I : IH) (v : Value) (l : List At) (hv : RdS tAt I v l) (hl : ∀ x ∈ l, x.Wf) (w : World) (hw : Ok I w) :
    Calls Tryz.prog 72 #[v] w fun e w' => e = .returned (.int .i64 (greatA l)) ∧ Below w.heap.size w w' := by
  have hlen := hv.len_le
  obtain ⟨ao, cap, rfl, hcap, hcm, _⟩ := id hv
  have Hv := Lib.hid hv; clear hv
  have Hl := Lib.hid hl; clear hl
  by_cases h30 : l.length ≤ 30
  · have hd : decide (30 < l.length) = false := by simp; omega
    go_enter Tryz.func72, Tryz.ntmps72
    go_wp2_with fail
    go_loopw [3] (fun s3 wr => ∃ k : Nat, k ≤ l.length ∧ s3 = .int .i64 k ∧ (l.take k).any bigA = false ∧ Below w.heap.size w wr) (fun i _ => l.length - (intOf i).toNat)
    case atStart => exact ⟨0, Nat.zero_le _, rfl, rfl, Below.refl _ _⟩
    case round =>
      obtain ⟨k, hk, rfl, hr, hb⟩ := hrel
      have Hr := Lib.hid hr; clear hr
      by_cases hlt : k < l.length
      · have hwr : Ok I wr := hw.below (Nat.le_refl _) hb
        obtain ⟨x, b, off, cap', hlx, hvv, hc0, hc1⟩ := atAt Hv.out hwr k hlt
        cases hvv
        have hxm : x ∈ l := by rw [← hlx]; exact List.getElem_mem hlt
        obtain ⟨hx1, hx2⟩ := Hl.out x hxm
        have Hxm := Lib.hid hxm
        have Htk := Lib.hid (show l.take (k + 1) = l.take k ++ [x] by rw [List.take_succ_eq_append_getElem hlt, hlx])
        clear hlx hxm
        by_cases h1 : x.k.length ≤ 100
        · have hd1 : decide (100 < x.k.length) = false := by simp; omega
          by_cases h2 : x.v.length ≤ 100
          · have hd2 : decide (100 < x.v.length) = false := by simp; omega
            go_wp2
            go_roundw
            case rel => exact ⟨k + 1, by omega, by go_num, (by rw [Htk.out, List.any_append, Hr.out]; simp [bigA]; omega), hb⟩
            case measure => simp [intOf]; omega
          · have hd2 : decide (100 < x.v.length) = true := by simp; omega
            go_wp2
            go_ret
            exact ⟨ret_i (by rw [greatA, if_neg (by omega), if_pos (List.any_eq_true.2 ⟨x, Hxm.out, by simp [bigA]; omega⟩)]), hb⟩
        · have hd1 : decide (100 < x.k.length) = true := by simp; omega
          go_wp2
          go_ret
          exact ⟨ret_i (by rw [greatA, if_neg (by omega), if_pos (List.any_eq_true.2 ⟨x, Hxm.out, by simp [bigA]; omega⟩)]), hb⟩
      · go_wp2
        go_ret
        refine ⟨ret_i ?_, hb⟩
        have := Hr.out
        rw [List.take_of_length_le (by omega)] at this
        rw [greatA, if_neg (by omega), if_neg (by rw [this]; simp)]
  · have hd : decide (30 < l.length) = true := by simp; omega
    go_enter Tryz.func72, Tryz.ntmps72
    go_wp2
    go_ret
    exact ⟨ret_i (by rw [greatA, if_pos (by omega)]), Below.refl _ _⟩

theorem run_neq_at (a b : At) (W : World) : (binOp .neq 90 (.agg #[S a.k, S a.v]) (.agg #[S b.k, S b.v])).run Tryz.prog W = .ok (.bool (!decide (a = b))) W := by
  rw [run_neq_of _ _ [(9, 0, false), (9, 1, false)] W (by kernel_rfl) (by kernel_rfl) (by kernel_rfl)]
  obtain ⟨a1, a2⟩ := a
  obtain ⟨b1, b2⟩ := b
  simp [go_sem]
  by_cases h1 : a1 = b1 <;> by_cases h2 : a2 = b2 <;> simp [h1, h2]

set_option maxRecDepth 100000 in
set_option maxHeartbeats 400000 in
theorem ref32_Same (I : IH) (v1 v2 : Value) (l1 l2 : List At) (hv1 : RdS tAt I v1 l1) (hv2 : RdS tAt I v2 l2) (w : World) (hw : Ok I w) :
    Calls Tryz.prog 55 #[v1, v2] w fun e w' => e = .returned (.bool (decide (l1 = l2))) ∧ Below w.heap.size w w' := by
  have hlen := hv1.len_le
  have hlen2 := hv2.len_le
  obtain ⟨ao, cap, rfl, hcap, hcm, _⟩ := id hv1
  obtain ⟨ao2, cap2, rfl, hcap2, hcm2, _⟩ := id hv2
  have Hv1 := Lib.hid hv1; clear hv1
  have Hv2 := Lib.hid hv2; clear hv2
  by_cases hll : l1.length = l2.length
  · have hn : ((l1.length : Int) != (l2.length : Int)) = false := by rw [hll]; simp
    have Hll := Lib.hid hll; clear hll
    go_enter Tryz.func55, Tryz.ntmps55
    go_wp2
    go_loopw [5] (fun s5 wr => ∃ k : Nat, k ≤ l1.length ∧ s5 = .int .i64 k ∧ l1.take k = l2.take k ∧ Below w.heap.size w wr) (fun i _ => l1.length - (intOf i).toNat)
    case atStart => exact ⟨0, Nat.zero_le _, rfl, rfl, Below.refl _ _⟩
    case round =>
      obtain ⟨k, hk, rfl, hr, hb⟩ := hrel
      have Hr := Lib.hid hr; clear hr
      by_cases hlt : k < l1.length
      · have hlt2 : k < l2.length := by rw [← Hll.out]; exact hlt
        have hwr : Ok I wr := hw.below (Nat.le_refl _) hb
        obtain ⟨p, b, off, cap', hp, hvv, hp0, hp1⟩ := atAt Hv1.out hwr k hlt
        cases hvv
        obtain ⟨q, b', off', cap'', hq, hvv, hq0, hq1⟩ := atAt Hv2.out hwr k hlt2
        cases hvv
        have Hp := Lib.hid hp; clear hp
        have Hq := Lib.hid hq; clear hq
        have hg0 := cell_regrown hp0
        have hg1 := cell_regrown hp1
        have hy0 := cell_regrown hq0
        have hy1 := cell_regrown hq1
        have hneq := run_neq_at p q
        by_cases hpq : p = q
        · rw [decide_eq_true hpq] at hneq
          go_wp2_with fail
          refine wp_region_quiet_below (by kernel_rfl) (by kernel_rfl) ?_
          repeat (go_big_quiet_step ((fail)))
          refine wpQuiet_nil ?_
          intro w2 hwq
          have hb2 : Below (wr).heap.size (wr) w2 := by
            obtain ⟨pq, rfl⟩ := hwq
            exact below_regrown _ _ _
          clear hwq
          go_wp2
          go_roundw
          case rel => exact ⟨k + 1, by omega, by go_num, by rw [List.take_succ_eq_append_getElem hlt, List.take_succ_eq_append_getElem hlt2, Hr.out, Hp.out, Hq.out, hpq], hb.trans (hb2.mono hb.size)⟩
          case measure => simp [intOf]; omega
        · rw [decide_eq_false hpq] at hneq
          go_wp2_with fail
          refine wp_region_quiet_below (by kernel_rfl) (by kernel_rfl) ?_
          repeat (go_big_quiet_step ((fail)))
          refine wpQuiet_nil ?_
          intro w2 hwq
          have hb2 : Below (wr).heap.size (wr) w2 := by
            obtain ⟨pq, rfl⟩ := hwq
            exact below_regrown _ _ _
          clear hwq
          go_wp2
          go_ret
          refine ⟨ret_b ?_, hb.trans (hb2.mono hb.size)⟩
          symm
          rw [decide_eq_false_iff_not]
          intro h
          apply hpq
          rw [← Hp.out, ← Hq.out]
          simp [h]
      · go_wp2
        go_ret
        refine ⟨ret_b ?_, hb⟩
        symm
        rw [decide_eq_true_iff]
        have := Hr.out
        rwa [List.take_of_length_le (by omega), List.take_of_length_le (by rw [← Hll.out]; omega)] at this
  · have hn : ((l1.length : Int) != (l2.length : Int)) = true := by rw [bne_iff_ne]; omega
    go_enter Tryz.func55, Tryz.ntmps55
    go_wp2
    go_ret
    exact ⟨ret_b (by simp; intro h; exact hll (by rw [h])), Below.refl _ _⟩
end Go.Proofs.YtcbmdghnlbieeaaGreatDoor
namespace Go.Proofs.YtcbmdghnlbieeaaGreatDoor
open Go.RowKit

theorem keyChar_nat (c : UInt8) : keyChar c = (decide (97 ≤ c.toNat) && decide (c.toNat ≤ 122) || decide (48 ≤ c.toNat) && decide (c.toNat ≤ 57) || decide (c.toNat = 46) || decide (c.toNat = 95) || decide (c.toNat = 45)) := by
  have e : ∀ n : Nat, n < 256 → (c == UInt8.ofNat n) = decide (c.toNat = n) := fun n hn => by
    rw [Bool.eq_iff_iff, beq_iff_eq, decide_eq_true_iff]
    constructor
    · intro h; rw [h]; simp; omega
    · intro h
      have : c = UInt8.ofNat c.toNat := by simp
      rw [this, h]
  unfold keyChar
  rw [show (46 : UInt8) = UInt8.ofNat 46 from rfl, show (95 : UInt8) = UInt8.ofNat 95 from rfl, show (45 : UInt8) = UInt8.ofNat 45 from rfl, e 46 (by omega), e 95 (by omega), e 45 (by omega)]
  simp [UInt8.le_iff_toNat_le]

set_option maxRecDepth 100000 in
set_option maxHeartbeats 1000000 in
theorem ref32_Key (s : Bytes) (hs : s.length ≤ 9223372036854775807) (w : World) :
    Calls Tryz.prog 115 #[S s] w fun e w' => e = .returned (.bool (keyOk s)) ∧ Below w.heap.size w w' := by
  by_cases h1 : 1 ≤ s.length
  · have hd1 : decide (s.length < 1) = false := decide_eq_false (by omega)
    by_cases h32 : s.length ≤ 32
    · have hd2 : decide (32 < s.length) = false := by simp; omega
      have Hok := Lib.hid (show keyOk s = s.all keyChar by simp [keyOk, h1, h32])
      go_enter Tryz.func115, Tryz.ntmps115
      go_wp2_with fail
      go_loop [3] (fun s3 => ∃ k : Nat, k ≤ s.length ∧ s3 = .int .i64 k ∧ (s.take k).all keyChar = true) (fun i => s.length - (intOf i).toNat)
      case atStart => exact ⟨0, Nat.zero_le _, rfl, rfl⟩
      case round =>
        obtain ⟨k, hk, rfl, hr⟩ := hrel
        have Hr := Lib.hid hr; clear hr
        by_cases hlt : k < s.length
        · have hx := run_at Tryz.underlying9 s (k : Int) k rfl hlt
          have hkc := keyChar_nat (s.getD k 0)
          have Htk := Lib.hid (show s.take (k + 1) = s.take k ++ [s.getD k 0] by rw [List.take_succ_eq_append_getElem hlt]; simp [List.getD, hlt])
          have Hmem := Lib.hid (show s.getD k 0 ∈ s by simp [List.getD, hlt])
          have hc256 : (s.getD k 0).toNat < 256 := (s.getD k 0).toNat_lt
          generalize s.getD k 0 = ch at hkc Htk Hmem hx hc256
          generalize ch.toNat = c at hkc hx hc256
          rcases (show (97 ≤ c ∧ c ≤ 122) ∨ 122 < c ∨ (48 ≤ c ∧ c ≤ 57) ∨ c = 46 ∨ c = 95 ∨ c = 45 ∨ (c < 48 ∧ c ≠ 46 ∧ c ≠ 45) ∨ (57 < c ∧ c < 97 ∧ c ≠ 95) by omega) with hc | hc | hc | hc | hc | hc | hc | hc
          · have d97 : decide ((c : Int) < 97) = false := by simp; omega
            have d122 : decide (122 < (c : Int)) = false := by simp; omega
            have d48 : decide ((c : Int) < 48) = false := by simp; omega
            have d57 : decide (57 < (c : Int)) = true := by simp; omega
            have n46 : ((c : Int) != 46) = true := by simp; omega
            have n95 : ((c : Int) != 95) = true := by simp; omega
            have n45 : ((c : Int) != 45) = true := by simp; omega
            have Hkc := Lib.hid (show keyChar ch = true by rw [hkc]; simp; omega)
            clear hkc hc
            go_wp2
            go_round
            case rel => exact ⟨k + 1, by omega, by go_num, by rw [Htk.out, List.all_append, Hr.out]; simp [Hkc.out]⟩
            case measure => simp [intOf]; omega
          · have d97 : decide ((c : Int) < 97) = false := by simp; omega
            have d122 : decide (122 < (c : Int)) = true := by simp; omega
            have d48 : decide ((c : Int) < 48) = false := by simp; omega
            have d57 : decide (57 < (c : Int)) = true := by simp; omega
            have n46 : ((c : Int) != 46) = true := by simp; omega
            have n95 : ((c : Int) != 95) = true := by simp; omega
            have n45 : ((c : Int) != 45) = true := by simp; omega
            have Hkc := Lib.hid (show keyChar ch = false by rw [hkc]; simp; omega)
            have Hall := Lib.hid (show s.all keyChar = false by
              cases h : s.all keyChar with
              | false => rfl
              | true => rw [List.all_eq_true.1 h ch Hmem.out] at Hkc; exact absurd Hkc.out (by simp))
            clear hkc hc
            go_wp2
            go_ret
            exact ⟨ret_b (by rw [Hok.out, Hall.out]), Below.refl _ _⟩
          · have d97 : decide ((c : Int) < 97) = true := by simp; omega
            have d122 : decide (122 < (c : Int)) = false := by simp; omega
            have d48 : decide ((c : Int) < 48) = false := by simp; omega
            have d57 : decide (57 < (c : Int)) = false := by simp; omega
            have n46 : ((c : Int) != 46) = true := by simp; omega
            have n95 : ((c : Int) != 95) = true := by simp; omega
            have n45 : ((c : Int) != 45) = true := by simp; omega
            have Hkc := Lib.hid (show keyChar ch = true by rw [hkc]; simp; omega)
            clear hkc hc
            go_wp2
            go_round
            case rel => exact ⟨k + 1, by omega, by go_num, by rw [Htk.out, List.all_append, Hr.out]; simp [Hkc.out]⟩
            case measure => simp [intOf]; omega
          · have d97 : decide ((c : Int) < 97) = true := by simp; omega
            have d122 : decide (122 < (c : Int)) = false := by simp; omega
            have d48 : decide ((c : Int) < 48) = true := by simp; omega
            have d57 : decide (57 < (c : Int)) = false := by simp; omega
            have n46 : ((c : Int) != 46) = false := by simp; omega
            have n95 : ((c : Int) != 95) = true := by simp; omega
            have n45 : ((c : Int) != 45) = true := by simp; omega
            have Hkc := Lib.hid (show keyChar ch = true by rw [hkc]; simp; omega)
            clear hkc hc
            go_wp2
            go_round
            case rel => exact ⟨k + 1, by omega, by go_num, by rw [Htk.out, List.all_append, Hr.out]; simp [Hkc.out]⟩
            case measure => simp [intOf]; omega
          · have d97 : decide ((c : Int) < 97) = true := by simp; omega
            have d122 : decide (122 < (c : Int)) = false := by simp; omega
            have d48 : decide ((c : Int) < 48) = false := by simp; omega
            have d57 : decide (57 < (c : Int)) = true := by simp; omega
            have n46 : ((c : Int) != 46) = true := by simp; omega
            have n95 : ((c : Int) != 95) = false := by simp; omega
            have n45 : ((c : Int) != 45) = true := by simp; omega
            have Hkc := Lib.hid (show keyChar ch = true by rw [hkc]; simp; omega)
            clear hkc hc
            go_wp2
            go_round
            case rel => exact ⟨k + 1, by omega, by go_num, by rw [Htk.out, List.all_append, Hr.out]; simp [Hkc.out]⟩
            case measure => simp [intOf]; omega
          · have d97 : decide ((c : Int) < 97) = true := by simp; omega
            have d122 : decide (122 < (c : Int)) = false := by simp; omega
            have d48 : decide ((c : Int) < 48) = true := by simp; omega
            have d57 : decide (57 < (c : Int)) = false := by simp; omega
            have n46 : ((c : Int) != 46) = true := by simp; omega
            have n95 : ((c : Int) != 95) = true := by simp; omega
            have n45 : ((c : Int) != 45) = false := by simp; omega
            have Hkc := Lib.hid (show keyChar ch = true by rw [hkc]; simp; omega)
            clear hkc hc
            go_wp2
            go_round
            case rel => exact ⟨k + 1, by omega, by go_num, by rw [Htk.out, List.all_append, Hr.out]; simp [Hkc.out]⟩
            case measure => simp [intOf]; omega
          · have d97 : decide ((c : Int) < 97) = true := by simp; omega
            have d122 : decide (122 < (c : Int)) = false := by simp; omega
            have d48 : decide ((c : Int) < 48) = true := by simp; omega
            have d57 : decide (57 < (c : Int)) = false := by simp; omega
            have n46 : ((c : Int) != 46) = true := by simp; omega
            have n95 : ((c : Int) != 95) = true := by simp; omega
            have n45 : ((c : Int) != 45) = true := by simp; omega
            have Hkc := Lib.hid (show keyChar ch = false by rw [hkc]; simp; omega)
            have Hall := Lib.hid (show s.all keyChar = false by
              cases h : s.all keyChar with
              | false => rfl
              | true => rw [List.all_eq_true.1 h ch Hmem.out] at Hkc; exact absurd Hkc.out (by simp))
            clear hkc hc
            go_wp2
            go_ret
            exact ⟨ret_b (by rw [Hok.out, Hall.out]), Below.refl _ _⟩
          · have d97 : decide ((c : Int) < 97) = true := by simp; omega
            have d122 : decide (122 < (c : Int)) = false := by simp; omega
            have d48 : decide ((c : Int) < 48) = false := by simp; omega
            have d57 : decide (57 < (c : Int)) = true := by simp; omega
            have n46 : ((c : Int) != 46) = true := by simp; omega
            have n95 : ((c : Int) != 95) = true := by simp; omega
            have n45 : ((c : Int) != 45) = true := by simp; omega
            have Hkc := Lib.hid (show keyChar ch = false by rw [hkc]; simp; omega)
            have Hall := Lib.hid (show s.all keyChar = false by
              cases h : s.all keyChar with
              | false => rfl
              | true => rw [List.all_eq_true.1 h ch Hmem.out] at Hkc; exact absurd Hkc.out (by simp))
            clear hkc hc
            go_wp2
            go_ret
            exact ⟨ret_b (by rw [Hok.out, Hall.out]), Below.refl _ _⟩
        · have hall : s.take k = s := List.take_of_length_le (by omega)
          rw [hall] at Hr
          clear hall
          go_wp2
          go_ret
          exact ⟨ret_b (by rw [Hok.out, Hr.out]), Below.refl _ _⟩
    · have hd2 : decide (32 < s.length) = true := by simp; omega
      have Hok := Lib.hid (show keyOk s = false by simp [keyOk, h32])
      go_enter Tryz.func115, Tryz.ntmps115
      go_wp2
      go_ret
      exact ⟨ret_b Hok.out.symm, Below.refl _ _⟩
  · have hd1 : decide (s.length < 1) = true := decide_eq_true (by omega)
    have Hok := Lib.hid (show keyOk s = false by simp [keyOk, h1])
    go_enter Tryz.func115, Tryz.ntmps115
    go_wp2
    go_ret
    exact ⟨ret_b Hok.out.symm, Below.refl _ _⟩
end Go.Proofs.YtcbmdghnlbieeaaGreatDoor
namespace Go.Proofs.YtcbmdghnlbieeaaGreatDoor
open Go.RowKit

theorem chkFrom_step (p : Option At) (x : At) (l : List At) : chkFrom p (x :: l) = if atErr x ≠ 0 then atErr x else if (p.any fun q => q.k == x.k) then 8 else if (p.any fun q => Op.bytesLess x.k q.k) then 14 else chkFrom (some x) l := rfl

set_option maxRecDepth 100000 in
set_option maxHeartbeats 1000000 in
theorem ref32_Check (I : IH) (v : Value) (l : List At) (hv : RdS tAt I v l) (hl : ∀ x ∈ l, x.Wf) (w : World) (hw : Ok I w) :
    Calls Tryz.prog 84 #[v] w fun e w' => e = .returned (.int .i64 (chk l)) ∧ Below w.heap.size w w' := by
  have hlen := hv.len_le
  obtain ⟨ao, cap, rfl, hcap, hcm, _⟩ := id hv
  have Hv := Lib.hid hv; clear hv
  have Hl := Lib.hid hl; clear hl
  by_cases h16 : l.length ≤ 16
  · have hd : decide (16 < l.length) = false := decide_eq_false (by omega)
    have Hchk := Lib.hid (show chk l = chkFrom none l by rw [chk, if_neg (by omega)])
    go_enter Tryz.func84, Tryz.ntmps84
    go_wp2_with fail
    go_loopw [3] (fun s3 wr => ∃ k : Nat, k ≤ l.length ∧ s3 = .int .i64 k ∧ chkFrom (if k = 0 then none else l[k-1]?) (l.drop k) = chkFrom none l ∧ Below w.heap.size w wr) (fun i _ => l.length - (intOf i).toNat)
    case atStart => exact ⟨0, Nat.zero_le _, rfl, rfl, Below.refl _ _⟩
    case round =>
      obtain ⟨k, hk, rfl, hr, hb⟩ := hrel
      have Hr := Lib.hid hr; clear hr
      by_cases hlt : k < l.length
      · have hwr : Ok I wr := hw.below (Nat.le_refl _) hb
        obtain ⟨x, b, off, cap', hlx, hvv, hc0, hc1⟩ := atAt Hv.out hwr k hlt
        cases hvv
        have hxm : x ∈ l := by rw [← hlx]; exact List.getElem_mem hlt
        obtain ⟨hx1, hx2⟩ := Hl.out x hxm
        have Hst := Lib.hid (show chk l = if atErr x ≠ 0 then atErr x else if ((if k = 0 then none else l[k-1]?).any fun q => q.k == x.k) then 8 else if ((if k = 0 then none else l[k-1]?).any fun q => Op.bytesLess x.k q.k) then 14 else chkFrom (some x) (l.drop (k+1)) by
          rw [Hchk.out, ← Hr.out, List.drop_eq_getElem_cons hlt, hlx, chkFrom_step])
        have Hkx := Lib.hid (show l[k]? = some x by rw [List.getElem?_eq_getElem hlt, hlx])
        clear hlx hxm
        go_wp2_with fail
        refine (ref32_Key x.k hx1 _).mono ?_
        rintro e w1 ⟨rfl, hb1⟩
        have hb1' := hb.trans (hb1.mono hb.size)
        have hc0 := cell_thru hb1 hc0
        have hc1 := cell_thru hb1 hc1
        have hw1 : Ok I w1 := hwr.below (Nat.le_refl _) hb1
        clear hb1
        cases hko : keyOk x.k
        · have Hko := Lib.hid (show chk l = 7 by rw [Hst.out, if_pos (by rw [atErr, if_pos hko]; omega), atErr, if_pos hko])
          clear hko
          go_wp2
          go_ret
          exact ⟨ret_i Hko.out.symm, hb1'⟩
        · have Hko := Lib.hid hko
          clear hko
          by_cases h64 : x.v.length ≤ 64
          · have hd2 : decide (64 < x.v.length) = false := decide_eq_false (by omega)
            have He := Lib.hid (show atErr x = 0 by rw [atErr, if_neg (by rw [Hko.out]; simp), if_neg (by omega)])
            by_cases hk0 : k = 0
            · have hd3 : decide (0 < k) = false := decide_eq_false (by omega)
              have Hnx := Lib.hid (show chkFrom (if k + 1 = 0 then none else l[k+1-1]?) (l.drop (k+1)) = chkFrom none l by
                rw [← Hchk.out, Hst.out, He.out, if_neg (by omega), Nat.add_sub_cancel, Hkx.out]; simp [hk0])
              clear hk0
              go_wp2_with fail
              refine wp_region_quiet_below (by kernel_rfl) (by kernel_rfl) ?_
              repeat (go_big_quiet_step ((fail)))
              refine wpQuiet_nil ?_
              intro w2 hwq
              have hb2 : Below (w1).heap.size (w1) w2 := by
                obtain ⟨pq, rfl⟩ := hwq
                exact below_regrown _ _ _
              clear hwq
              go_wp2_with fail
              refine wp_region_quiet_below (by kernel_rfl) (by kernel_rfl) ?_
              repeat (go_big_quiet_step ((fail)))
              refine wpQuiet_nil ?_
              intro w3 hwq
              have hb3 : Below (w2).heap.size (w2) w3 := by
                obtain ⟨pq, rfl⟩ := hwq
                exact below_regrown _ _ _
              clear hwq
              go_wp2
              go_roundw
              case rel => exact ⟨k + 1, by omega, by go_num, Hnx.out, hb1'.trans ((hb2.trans (hb3.mono hb2.size)).mono hb1'.size)⟩
              case measure => simp [intOf]; omega
            · obtain ⟨q, b', off', cap'', hlq, hvv, hp0, hp1⟩ := atAt Hv.out hw1 (k-1) (by omega)
              cases hvv
              have Hst2 := Lib.hid (show chk l = if (q.k == x.k) then 8 else if Op.bytesLess x.k q.k then 14 else chkFrom (some x) (l.drop (k+1)) by
                rw [Hst.out, He.out, if_neg (by omega), if_neg hk0, List.getElem?_eq_getElem (by omega), hlq]; rfl)
              have hd3 : decide (0 < k) = true := decide_eq_true (by omega)
              have hi : IntKind.i64.wrap ((k : Int) - 1) = (k : Int) - 1 := IntWalk.i64_in _ (by omega)
              have hj : 0 ≤ (k : Int) - 1 := by omega
              have hm : ((k : Int) - 1).toNat = k - 1 := by omega
              have hg0 := cell_regrown hc0
              have hq0 := cell_regrown hp0
              clear hlq
              cases he1 : (x.k == q.k)
              · have He1 := Lib.hid (show (q.k == x.k) = false by rw [beq_eq_false_iff_ne] at he1 ⊢; exact fun h => he1 h.symm)
                cases he2 : Op.bytesLess x.k q.k
                · have Hnx := Lib.hid (show chkFrom (if k + 1 = 0 then none else l[k+1-1]?) (l.drop (k+1)) = chkFrom none l by
                    rw [← Hchk.out, Hst2.out, He1.out, he2, Nat.add_sub_cancel, Hkx.out]; simp)
                  go_wp2_with fail
                  refine wp_region_quiet_below (by kernel_rfl) (by kernel_rfl) ?_
                  repeat (go_big_quiet_step ((fail)))
                  refine wpQuiet_nil ?_
                  intro w2 hwq
                  have hb2 : Below (w1).heap.size (w1) w2 := by
                    obtain ⟨pq, rfl⟩ := hwq
                    exact below_regrown _ _ _
                  clear hwq
                  go_wp2_with fail
                  have hg0 := cell_regrown (cell_thru hb2 hc0)
                  have hq0 := cell_regrown (cell_thru hb2 hp0)
                  refine wp_region_quiet_below (by kernel_rfl) (by kernel_rfl) ?_
                  repeat (go_big_quiet_step ((fail)))
                  refine wpQuiet_nil ?_
                  intro w3 hwq
                  have hb3 : Below (w2).heap.size (w2) w3 := by
                    obtain ⟨pq, rfl⟩ := hwq
                    exact below_regrown _ _ _
                  clear hwq
                  go_wp2
                  go_roundw
                  case rel => exact ⟨k + 1, by omega, by go_num, Hnx.out, hb1'.trans ((hb2.trans (hb3.mono hb2.size)).mono hb1'.size)⟩
                  case measure => simp [intOf]; omega
                · have Hnx := Lib.hid (show chk l = 14 by rw [Hst2.out, He1.out, he2]; simp)
                  go_wp2_with fail
                  refine wp_region_quiet_below (by kernel_rfl) (by kernel_rfl) ?_
                  repeat (go_big_quiet_step ((fail)))
                  refine wpQuiet_nil ?_
                  intro w2 hwq
                  have hb2 : Below (w1).heap.size (w1) w2 := by
                    obtain ⟨pq, rfl⟩ := hwq
                    exact below_regrown _ _ _
                  clear hwq
                  go_wp2_with fail
                  have hg0 := cell_regrown (cell_thru hb2 hc0)
                  have hq0 := cell_regrown (cell_thru hb2 hp0)
                  refine wp_region_quiet_below (by kernel_rfl) (by kernel_rfl) ?_
                  repeat (go_big_quiet_step ((fail)))
                  refine wpQuiet_nil ?_
                  intro w3 hwq
                  have hb3 : Below (w2).heap.size (w2) w3 := by
                    obtain ⟨pq, rfl⟩ := hwq
                    exact below_regrown _ _ _
                  clear hwq
                  go_wp2
                  go_ret
                  exact ⟨ret_i Hnx.out.symm, hb1'.trans ((hb2.trans (hb3.mono hb2.size)).mono hb1'.size)⟩
              · have Hnx := Lib.hid (show chk l = 8 by rw [Hst2.out, if_pos (by rw [beq_iff_eq] at he1 ⊢; exact he1.symm)])
                go_wp2_with fail
                refine wp_region_quiet_below (by kernel_rfl) (by kernel_rfl) ?_
                repeat (go_big_quiet_step ((fail)))
                refine wpQuiet_nil ?_
                intro w2 hwq
                have hb2 : Below (w1).heap.size (w1) w2 := by
                  obtain ⟨pq, rfl⟩ := hwq
                  exact below_regrown _ _ _
                clear hwq
                go_wp2
                go_ret
                exact ⟨ret_i Hnx.out.symm, hb1'.trans (hb2.mono hb1'.size)⟩
          · have hd2 : decide (64 < x.v.length) = true := decide_eq_true (by omega)
            have He := Lib.hid (show chk l = 6 by
              have : atErr x = 6 := by rw [atErr, if_neg (by rw [Hko.out]; simp), if_pos (by omega)]
              rw [Hst.out, this]; simp)
            go_wp2
            go_ret
            exact ⟨ret_i He.out.symm, hb1'⟩
      · go_wp2
        go_ret
        refine ⟨ret_i ?_, hb⟩
        rw [Hchk.out, ← Hr.out, List.drop_of_length_le (by omega)]; rfl
  · have hd : decide (16 < l.length) = true := decide_eq_true (by omega)
    go_enter Tryz.func84, Tryz.ntmps84
    go_wp2
    go_ret
    exact ⟨ret_i (by rw [chk, if_pos (by omega)]), Below.refl _ _⟩
end Go.Proofs.YtcbmdghnlbieeaaGreatDoor
