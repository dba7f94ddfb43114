/-
  Walks of layer 32: slices.DeleteFunc at attributes, Remove.
-/
import Derived.Test.YtnnhgmpdfjljbaaDoorAtH
namespace Go.Proofs.YtnnhgmpdfjljbaaDoor
open Go.RowKit

theorem at_zero : ∀ w, (zeroValue 34).run Tryd.prog w = .ok (.agg #[.string ⟨#[]⟩, .string ⟨#[]⟩]) w := Tryd.zeroValue34
theorem at_zero_one (n : Nat) : ∀ u ∈ (Builtin.zeroCells (Value.agg #[.string ⟨#[]⟩, .string ⟨#[]⟩]).cells n).toList, u.oneCell' = true := by
  intro u hu
  simp only [Builtin.zeroCells, Value.cells] at hu
  rw [Array.mem_toList_iff, Array.mem_map] at hu
  obtain ⟨i, _, rfl⟩ := hu
  have : i % (#[Value.string ⟨#[]⟩, Value.string ⟨#[]⟩] : Array Value).size = 0 ∨ i % (#[Value.string ⟨#[]⟩, Value.string ⟨#[]⟩] : Array Value).size = 1 := by
    show i % 2 = 0 ∨ i % 2 = 1
    omega
  rcases this with h | h <;> rw [h] <;> rfl

set_option maxRecDepth 100000 in
set_option maxHeartbeats 2000000 in
theorem lib_DeleteFunc (I : IH) (B : Nat) (v : Value) (l : List At) (w : World) (hv : OwnS tAt 34 I w B v l) (hn : l.length ≤ 1000000) (g : Nat) (cb : Array Value) (p : At → Bool) (hw : Ok I w) (hI : ∀ b, B ≤ b → I b = none) (_hB : B ≤ w.heap.size) (eg : ∀ args w, (callFunc g args).run Tryd.prog w = .ok (.enter g args) w) (hp : ∀ (x : At) (W : World), w.grownBy W v.ownBlock → Calls Tryd.prog g (#[x.val] ++ cb) W fun e w' => e = .returned (.bool (p x)) ∧ Below W.heap.size W w') :
    Calls Tryd.prog 32 #[v, .func (.func g) #[] cb] w fun e w' => ∃ v', e = .returned v' ∧ OwnS tAt 34 I w' B v' (l.filter fun x => !(p x)) ∧ w.grownBy w' v.ownBlock := by
  obtain ⟨I', hI1, hI2, hI3, hI4⟩ := hv.freeze hw hI
  have hpa : PredA g cb p w := fun x W hW => hp x W (grown_belowA hW (Nat.le_refl _))
  have hlen := hI3.len_le
  have Hp := Lib.hid hp
  have Hpa := Lib.hid hpa
  have Heg := Lib.hid eg
  have HI3 := Lib.hid hI3
  have Hv := Lib.hid hv
  clear hp hpa eg hI3
  have hvs : ∃ ao cap, v = .slice ao l.length cap ∧ cap ≤ 9223372036854775807 := by
    obtain ⟨ao, cap, e, _, hcm, _⟩ := id HI3.out
    exact ⟨ao, cap, e, by unfold maxLen at hcm; omega⟩
  obtain ⟨ao, cap, rfl, hcm⟩ := hvs
  rcases idxA_cases l p with ⟨i, hi, e1, e2, e3⟩ | ⟨e1, e2⟩
  · have hrow : ∃ gb cur, ao = some ⟨gb, 0, none⟩ ∧ B ≤ gb ∧ w.heap[gb]? = some (.cells cur 34 (0, 0)) ∧ l.length ≤ cap ∧ cur.size = cap * 2 ∧ cur.toList.take (l.length * 2) = encA l := by
      obtain ⟨xs, ⟨_, h1⟩, hL⟩ := Hv.out
      rcases h1 with ⟨_, h0⟩ | ⟨gb, cap', cur, e, r1, r2, r3, r4, r5, r6⟩
      · omega
      · cases e
        exact ⟨gb, cur, rfl, r1, r2, r3, r5, by rw [← lies_enc hL]; exact r6⟩
    obtain ⟨gb, cur, rfl, hBg, hcur, hlc, hcs, htk⟩ := hrow
    have He := Lib.hid e1
    have hd1 : ((i : Int) == -1) = false := by rw [beq_eq_false_iff_ne]; omega
    have hF0 : ((l.take (i + 1)).filter fun x => !(p x)) = l.take i := by
      rw [List.take_succ_eq_append_getElem hi, List.filter_append]
      have : ((l.take i).filter fun x => !(p x)) = l.take i := List.filter_eq_self.2 fun x hx => by
        cases hpx : p x with
        | false => rfl
        | true => rw [List.any_eq_true.2 ⟨x, hx, hpx⟩] at e3; exact absurd e3 (by simp)
      rw [this]; simp [e2]
    have hcell : ∀ j (h : j < l.length), cur[j * 2]? = some (S l[j].k) ∧ cur[j * 2 + 1]? = some (S l[j].v) := by
      intro j hj
      obtain ⟨c0, c1⟩ := encA_at l j hj
      rw [← htk] at c0 c1
      rw [List.getElem?_take_of_lt (by omega), Array.getElem?_toList] at c0 c1
      exact ⟨c0, c1⟩
    have Hcell := Lib.hid hcell
    have hm0 : ∀ X, Below w.heap.size w X → DelM B gb cur w ((l.take (i + 1)).filter fun x => !(p x)) (i + 1) X := by
      intro X hX
      have hlt : gb < w.heap.size := (Array.getElem?_eq_some_iff.1 hcur).1
      refine ⟨⟨cur, (hX.block _ hlt).trans hcur, rfl, ?_, rfl⟩, grown_belowA hX (Nat.le_refl _)⟩
      rw [hF0, List.length_take, Nat.min_eq_left (by omega), ← encA_take, ← htk, List.take_take, Nat.min_eq_left (by omega)]
    have Hm0 := Lib.hid hm0
    have hFl : ((l.take (i + 1)).filter fun x => !(p x)).length = i := by rw [hF0, List.length_take]; omega
    have HFl := Lib.hid hFl
    clear e1 e2 e3 hF0 hcell hm0 hFl htk hcur hI4 hv
    go_enter Tryd.func32, Tryd.ntmps32
    go_wp2_with fail
    refine (lib_IndexFunc I' _ l HI3.out g cb p _ hI2 Heg.out Hpa.out).mono ?_
    rintro e w1 ⟨rfl, hb1⟩
    rw [He.out]
    have Hm1 := Lib.hid (Hm0.out w1 hb1)
    clear hb1 Hm0
    go_wp2_with fail
    go_loopw [5, 6] (fun s5 s6 X => ∃ (j : Nat) (F : List At), i + 1 ≤ j ∧ j ≤ l.length ∧ s6 = .int .i64 j ∧ s5 = .int .i64 F.length ∧ F.length < j ∧ F = ((l.take j).filter fun x => !(p x)) ∧ DelM B gb cur w F j X) (fun _ j _ => l.length - (intOf j).toNat)
    case atStart => exact ⟨i + 1, _, Nat.le_refl _, hi, by go_num, by rw [HFl.out], by rw [HFl.out]; omega, rfl, Hm1.out⟩
    case round =>
      clear Hm1 HFl
      obtain ⟨j, F, hij, hjl, rfl, rfl, hFj, hF, hm⟩ := hrel
      have HF := Lib.hid hF
      have Hm := Lib.hid hm
      clear hF hm
      by_cases hlt : j < l.length
      · obtain ⟨x, hlx⟩ : ∃ x, l[j] = x := ⟨_, rfl⟩
        have hc := Hcell.out j hlt
        rw [hlx] at hc
        have hc0 := (Hm.out.cell (j * 2) (Nat.le_refl _)).trans hc.1
        have hc1 := (Hm.out.cell (j * 2 + 1) (by omega)).trans hc.2
        have Hst := Lib.hid (show ((l.take (j + 1)).filter fun x => !(p x)) = F ++ (if p x then [] else [x]) by
          rw [List.take_succ_eq_append_getElem hlt, hlx, List.filter_append, ← HF.out]; cases h : p x <;> simp [h])
        clear hlx hc
        have eg := Heg.out
        go_wp2_with fail
        have hmA := Hm.out.pass ((Below.refl _ wr).alloc (Nat.le_refl _) (.cells #[S x.k, S x.v] 34))
        refine (Hp.out x _ hmA.grown).mono ?_
        rintro e w4 ⟨rfl, hb4⟩
        obtain ⟨hx0, hx1⟩ := atBox rfl hb4
        have Hm4 := Lib.hid (hmA.pass hb4)
        have hsz4 : gb < w4.heap.size := by
          obtain ⟨arr, h1, _⟩ := Hm4.out.row_
          exact (Array.getElem?_eq_some_iff.1 h1).1
        clear hmA hb4 hc0 hc1 eg
        cases hpx : p x
        · have Hnx := Lib.hid (show F ++ [x] = ((l.take (j + 1)).filter fun x => !(p x)) by rw [Hst.out, hpx]; simp)
          obtain ⟨u0, hu0⟩ := Hm4.out.some_ (F.length * 2) (by omega)
          obtain ⟨u1, hu1⟩ := Hm4.out.some_ (F.length * 2 + 1) (by omega)
          have f0 := Hm4.out.fr (F.length * 2)
          have f1 := Hm4.out.fr (F.length * 2 + 1)
          have hFl : F.length < l.length := by omega
          clear hpx
          go_wp2
          go_roundw
          case rel => exact ⟨j + 1, F ++ [x], by omega, by omega, by go_num, (by rw [List.length_append, List.length_singleton]; go_num), (by rw [List.length_append, List.length_singleton]; omega), Hnx.out, Hm4.out.put x (by omega) (by omega)⟩
          case measure => simp [intOf]; omega
        · have Hnx := Lib.hid (show F = ((l.take (j + 1)).filter fun x => !(p x)) by rw [Hst.out, hpx]; simp)
          clear hpx
          go_wp2
          go_roundw
          case rel => exact ⟨j + 1, F, by omega, by omega, by go_num, rfl, by omega, Hnx.out, Hm4.out.next⟩
          case measure => simp [intOf]; omega
      · have hje : j = l.length := by omega
        have HF2 := Lib.hid (show F = l.filter fun x => !(p x) by rw [HF.out, List.take_of_length_le (by omega)])
        obtain ⟨arr, ha1, ha2, ha3, ha4⟩ := Hm.out.row_
        have hFlen : F.length < l.length := by omega
        have hnc : ¬ F.length = cap := by omega
        have hcl := fun ty => run_clear_k (P := Tryd.prog) wr 22 34 ty _ Tryd.underlying22 at_zero gb (F.length * 2) (l.length - F.length) (cap - F.length) (at_zero_one _) (by omega) arr 34 ha1 (by show F.length * 2 + (l.length - F.length) * 2 ≤ arr.size; omega)
        have Harr := Lib.hid (show arr.size = cur.size ∧ arr.toList.take (F.length * 2) = encA F from ⟨ha2, ha3⟩)
        have Ha1 := Lib.hid ha1
        have hgr := Hm.out.grown
        clear ha1 ha2 ha3 ha4 hje
        go_wp2_with fail
        go_ret
        have hzl : (Builtin.zeroCells #[.string ⟨#[]⟩, .string ⟨#[]⟩] (l.length - F.length)).toList.length = (l.length - F.length) * 2 := by rw [Array.length_toList, size_zeroCells]; rfl
        obtain ⟨ha2, ha3⟩ := Harr.out
        have hal : arr.toList.length = cap * 2 := by rw [Array.length_toList, ha2, hcs]
        rw [← HF2.out]
        refine ⟨_, rfl, ⟨encA F, ⟨encA_length F, .inr ⟨gb, cap, _, rfl, hBg, setRow_heap _ _ _ _ _ _ Ha1.out, by omega, by unfold maxLen; omega, ?_, ?_⟩⟩, enc_lies I F⟩, grown_trans' hgr grown_setRow⟩
        · rw [List.size_toArray, List.length_append, List.length_append, hzl, List.length_take, List.length_drop, hal]
          show min (F.length * 2) (cap * 2) + ((l.length - F.length) * 2 + (cap * 2 - (F.length * 2 + (l.length - F.length) * 2))) = cap * 2
          omega
        · show ((arr.toList.take (F.length * 2) ++ _).toArray).toList.take (F.length * 2) = encA F
          rw [List.toList_toArray, List.take_append_of_le_length (by rw [List.length_take, hal]; omega), List.take_take, Nat.min_self, ha3]
  · have He := Lib.hid e1
    have Hf := Lib.hid (show (l.filter fun x => !(p x)) = l from List.filter_eq_self.2 fun x hx => by
      cases hpx : p x with
      | false => rfl
      | true => rw [List.any_eq_true.2 ⟨x, hx, hpx⟩] at e2; exact absurd e2 (by simp))
    clear e1 e2 hv hI4
    go_enter Tryd.func32, Tryd.ntmps32
    go_wp2_with fail
    refine (lib_IndexFunc I' _ l HI3.out g cb p _ hI2 Heg.out Hpa.out).mono ?_
    rintro e w1 ⟨rfl, hb1⟩
    rw [He.out]
    go_wp2
    go_ret
    exact ⟨_, rfl, by rw [Hf.out]; exact Hv.out.below hb1, grown_belowA hb1 (Nat.le_refl _)⟩

set_option maxRecDepth 100000 in
set_option maxHeartbeats 400000 in
theorem at_Remove (I : IH) (v : Value) (l : List At) (hv : RdS tAt I v l) (hn : l.length ≤ 1000000) (key : Bytes) (w : World) (hw : Ok I w) :
    Calls Tryd.prog 18 #[v, S key] w (RetS tAt I w (remA l key)) := by
  obtain ⟨ao, cap, rfl, hcap, hcm, _⟩ := id hv
  have Hv := Lib.hid hv; clear hv
  go_enter Tryd.func18, Tryd.ntmps18
  go_wp2_with fail
  refine (at_Clone I _ l Hv.out _ hw (by omega)).mono ?_
  rintro e w1 ⟨v1, rfl, hown1, hb1⟩
  have hok1 : Ok I w1 := hw.below (Nat.le_refl _) hb1
  go_wp2_with fail
  refine (at_has key _).mono ?_
  rintro e w2 ⟨rfl, hw2⟩
  have hb2 : Below w1.heap.size w1 w2 := by rw [hw2]; exact (Below.refl _ _).alloc (Nat.le_refl _) _
  have hok2 : Ok I w2 := hok1.below (Nat.le_refl _) hb2
  have hown2 := hown1.below hb2
  have hc2 : w2.cell? ⟨w1.heap.size, 0, none⟩ = some (S key) := by rw [hw2]; simp
  have hne : v1.ownBlock ≠ some w1.heap.size := hown1.ne_ge (Nat.le_refl _)
  have hp : ∀ (x : At) (W : World), w2.grownBy W v1.ownBlock → Calls Tryd.prog 35 (#[x.val] ++ #[.pointer (some ⟨w1.heap.size, 0, none⟩)]) W fun e w' => e = .returned (.bool (x.k == key)) ∧ Below W.heap.size W w' :=
    fun x W hW => at_has1 key w1.heap.size W (cell_own hW hne hc2) x W (Below.refl _ _)
  have Hp := Lib.hid hp
  have hb2' := hb1.trans (hb2.mono hb1.size)
  have hfr : ∀ b, w.heap.size ≤ b → I b = none := fun b hb => hw.fresh hb
  have Hfr := Lib.hid hfr
  have Hown2 := Lib.hid hown2
  have Hb2 := Lib.hid hb2'
  clear hp hb2 hb1 hw2 hc2 hfr hown2 hown1 hb2'
  go_wp2_with fail
  refine (lib_DeleteFunc I w.heap.size v1 l _ Hown2.out hn _ _ (fun x => x.k == key) hok2 Hfr.out Hb2.out.size (fun _ _ => by kernel_rfl) Hp.out).mono ?_
  rintro e w3 ⟨v3, rfl, hown3, hg3⟩
  have hb3 := Below.own Hb2.out hg3 Hown2.out (Nat.le_refl _) Hb2.out.size
  have hok3 : Ok I w3 := Ok.own hok2 hg3 Hown2.out Hfr.out
  have Hown3 := Lib.hid hown3
  clear hown3 hg3
  go_wp2
  go_ret
  obtain ⟨I', hI1, hI2, hI3, _⟩ := Hown3.out.freeze hok3 Hfr.out
  exact ⟨_, I', rfl, hb3, hI1, hI2, hI3⟩
end Go.Proofs.YtnnhgmpdfjljbaaDoor
