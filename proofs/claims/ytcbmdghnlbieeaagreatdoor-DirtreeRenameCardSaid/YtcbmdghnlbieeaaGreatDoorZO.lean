/-
  Plain laws for digests of trees: the last part of a path, lengths, depth. No program.
  Contracts of Go's library in this work's own words: Repeat, Join with nothing between, the last slash.
  Walks of layer 2 (netstring): String, Strings, Number; the reference's digits, Dec, String, Number.
-/
import Derived.Test.YtcbmdghnlbieeaaGreatDoorZJ
import Derived.Test.YtcbmdghnlbieeaaGreatDoorZC
import Derived.Test.YtcbmdghnlbieeaaGreatDoorZB
import Derived.Lib.ItoaNum
import Derived.Test.YtcbmdghnlbieeaaGreatDoorZH
import Derived.Test.YtcbmdghnlbieeaaGreatDoorZF
import Derived.Lib.Repeat
import Derived.Test.YtcbmdghnlbieeaaGreatDoorZA
namespace Go.Proofs.YtcbmdghnlbieeaaGreatDoor

theorem elsGo_cut (B : Bytes) : ∀ (A p : Bytes), elsGo p (A ++ 47 :: B) = elsGo p A ++ elsGo [] B
  | [], p => by rw [List.nil_append, elsGo, elsGo]; rfl
  | c :: A, p => by
    rw [List.cons_append, elsGo, elsGo]
    split
    · rw [elsGo_cut B A []]; rfl
    · exact elsGo_cut B A _
theorem elsGo_plain : ∀ (B p : Bytes), (∀ c ∈ B, c ≠ 47) → elsGo p B = [p ++ B]
  | [], p, _ => by rw [elsGo, List.append_nil]
  | c :: B, p, h => by
    have hc : (c == 47) = false := by simpa using h c (List.mem_cons_self ..)
    rw [elsGo, hc]
    simp only [Bool.false_eq_true, if_false]
    rw [elsGo_plain B (p ++ [c]) fun d hd => h d (List.mem_cons_of_mem _ hd)]
    simp
theorem lastP_none {s : Bytes} (h : ∀ c ∈ s, c ≠ 47) : lastP s = s := by
  unfold lastP els
  by_cases hs : s = []
  · rw [if_pos hs, hs]; rfl
  · rw [if_neg hs, elsGo_plain s [] h]; rfl
theorem lastP_cut (A B : Bytes) (h : ∀ c ∈ B, c ≠ 47) : lastP (A ++ 47 :: B) = B := by
  unfold lastP els
  rw [if_neg (by simp), elsGo_cut, elsGo_plain B [] h]
  simp

/-- The netstring of s, a number in a text. -/
def netP (s : Bytes) : Bytes := Lib.itoa s.length ++ [58] ++ s ++ [44]
def netsP : List Bytes → Bytes
  | [] => []
  | s :: l => netP s ++ netsP l
def numP (n : Int) : Bytes := Lib.itoa n ++ [32]
theorem netsP_append (l m : List Bytes) : netsP (l ++ m) = netsP l ++ netsP m := by
  induction l with
  | nil => rfl
  | cons s l ih => rw [List.cons_append, netsP, netsP, ih, List.append_assoc]
theorem nDigits_le (n w : Nat) (hn : n < 10 ^ w) (hw : 1 ≤ w) : Lib.nDigits n ≤ w := by
  induction w generalizing n with
  | zero => omega
  | succ w ih =>
    by_cases h : n < 10
    · rw [Lib.nDigits_small h]; omega
    · rw [Lib.nDigits_big h]
      rw [Nat.pow_succ] at hn
      rcases Nat.eq_zero_or_pos w with h0 | h0
      · subst h0; simp at hn; omega
      · have := ih (n / 10) (by omega) h0; omega
theorem itoa_len (n : Nat) (h : n ≤ 140737488355328) : (Lib.itoa (n : Int)).length ≤ 16 := by
  have : Lib.itoa (n : Int) = Lib.decDigits n := by simp [Lib.itoa]
  rw [this, Lib.decDigits_length]
  exact nDigits_le n 16 (by omega) (by omega)
theorem netP_len (s : Bytes) (h : s.length ≤ 100000000) : (netP s).length ≤ s.length + 18 := by
  have := itoa_len s.length (by omega)
  simp [netP]; omega
theorem numP_len (n : Nat) (h : n ≤ 140737488355328) : (numP n).length ≤ 17 := by
  have := itoa_len n h
  simp [numP]; omega

/-- What an entry's digest asks of it. -/
structure DgOk (x : Ent) : Prop where
  kind : x.kind = 1 ∨ x.kind = 2 ∨ x.kind = 3
  natt : x.attrs.length ≤ 16
  att : ∀ a ∈ x.attrs, a.k.length ≤ 32 ∧ a.v.length ≤ 64
  target : x.target.length ≤ 200
  s0 : 0 ≤ x.size
  s1 : x.size ≤ 65536
  digest : x.digest.length ≤ 32
  path : x.path.length ≤ 200
  deep : (els x.path).length ≤ 8
theorem chkFrom_att : ∀ {l : List At} {p : Option At}, chkFrom p l = 0 → ∀ a ∈ l, a.k.length ≤ 32 ∧ a.v.length ≤ 64
  | [], _, _, a, ha => by cases ha
  | x :: l, p, h, a, ha => by
    unfold chkFrom at h
    by_cases h1 : atErr x ≠ 0
    · rw [if_pos h1] at h; exact absurd h h1
    rw [if_neg h1] at h
    split at h
    · omega
    split at h
    · omega
    rcases List.mem_cons.1 ha with rfl | ha
    · have h2 : atErr a = 0 := by omega
      unfold atErr at h2
      split at h2
      · omega
      rename_i hk
      split at h2
      · omega
      simp [keyOk] at hk
      omega
    · exact chkFrom_att h a ha
theorem chk_att {l : List At} (h : chk l = 0) : l.length ≤ 16 ∧ ∀ a ∈ l, a.k.length ≤ 32 ∧ a.v.length ≤ 64 := by
  unfold chk at h
  split at h
  · omega
  · exact ⟨by omega, chkFrom_att h⟩
theorem dgOk_of {x : Ent} (h : entErr x = 0) (hk : x.kind = 1 ∨ x.kind = 2 ∨ x.kind = 3) : DgOk x := by
  unfold entErr at h
  rw [if_neg (by omega)] at h
  by_cases h1 : pathErr x.path ≠ 0
  · rw [if_pos h1] at h; exact absurd h h1
  rw [if_neg h1] at h
  split at h
  · omega
  by_cases h2 : chk x.attrs ≠ 0
  · rw [if_pos h2] at h; exact absurd h h2
  rw [if_neg h2] at h
  split at h
  · omega
  rename_i h3
  split at h
  · omega
  rename_i h4
  split at h
  · omega
  rename_i h5
  have hc := chk_att (l := x.attrs) (by omega)
  have hp : pathErr x.path = 0 := by omega
  refine ⟨hk, hc.1, hc.2, ?_, by omega, by omega, ?_, ?_, ?_⟩
  · have ht : targetOk x = true := by
      cases hh : targetOk x with
      | true => rfl
      | false => exact absurd (.inr hh) h3
    unfold targetOk at ht
    split at ht
    · simp at ht; omega
    · rw [if_neg (by omega)] at ht
      have : x.target = [] := by simpa using ht
      rw [this]; simp
  · rcases hk with hk | hk | hk
    · have : ¬ (x.kind = 1 ∧ x.digest.length ≠ 32) := fun q => h5 (.inl q)
      omega
    all_goals
      have : ¬ (x.kind ≠ 1 ∧ x.digest ≠ []) := fun q => h5 (.inr q)
      have hd : x.digest = [] := Classical.byContradiction fun q => this ⟨by omega, q⟩
      rw [hd]; simp
  · unfold pathErr at hp
    split at hp <;> omega
  · unfold pathErr at hp
    split at hp
    · omega
    · split at hp <;> omega
def rootE : Ent := ⟨2, [], [], [], 0, [], []⟩
theorem dgOk_root : DgOk rootE := ⟨.inr (.inl rfl), by decide, fun a ha => (by cases ha), by decide, by decide, by decide, by decide, by decide, by decide⟩
/-- The fuel left covers the depth left. -/
def Deep (n : Nat) (x : Ent) : Prop := 10 ≤ (els x.path).length + n
theorem list_deep {t : List Ent} {n : Nat} {x y : Ent} (h : Deep (n + 1) x) (hy : y ∈ listT t x.path) : Deep n y := by
  obtain ⟨_, h1, h2, h3⟩ := listT_mem.1 hy
  have he := els_upP h1
  rw [h3] at he
  unfold Deep at *
  have hne : els y.path ≠ [] := by
    intro e
    apply h2
    unfold els at e
    split at e
    · assumption
    · exact absurd e (elsGo_ne _ _)
  have hl : (els y.path).length ≠ 0 := fun e => hne (List.eq_nil_of_length_eq_zero e)
  rw [he, List.length_dropLast] at h
  omega

section
variable (H : Bytes → Bytes) (hH : ∀ s, (H s).length ≤ 32)
abbrev merkP (n : Nat) (t : List Ent) (x : Ent) : Bytes := merkF H netP numP nameP n t x
abbrev frontN (x : Ent) : Bytes := frontP netP numP nameP x
theorem nameP_len (k : Int) : (nameP k).length ≤ 7 := by
  unfold nameP
  repeat' split
  all_goals simp
/-- The attribute text. -/
def attP (l : List At) : Bytes := numP l.length ++ l.flatMap fun a => netP a.k ++ netP a.v
theorem attF_len : ∀ (l : List At), (∀ a ∈ l, a.k.length ≤ 32 ∧ a.v.length ≤ 64) → (l.flatMap fun a => netP a.k ++ netP a.v).length ≤ 132 * l.length
  | [], _ => by simp
  | a :: l, h => by
    have h1 := h a (List.mem_cons_self ..)
    have h2 := attF_len l fun b hb => h b (List.mem_cons_of_mem _ hb)
    have h3 := netP_len a.k (by omega)
    have h4 := netP_len a.v (by omega)
    simp only [List.flatMap_cons, List.length_append, List.length_cons]
    omega
theorem attP_len {l : List At} (hn : l.length ≤ 16) (h : ∀ a ∈ l, a.k.length ≤ 32 ∧ a.v.length ≤ 64) : (attP l).length ≤ 2200 := by
  have h1 := attF_len l h
  have h2 := numP_len l.length (by omega)
  unfold attP
  rw [List.length_append]
  omega
theorem frontN_eq (x : Ent) : frontN x = netP (nameP x.kind) ++ attP x.attrs := rfl
theorem frontN_len {x : Ent} (h : DgOk x) : (frontN x).length ≤ 2300 := by
  have h1 := attP_len h.natt h.att
  have h2 := nameP_len x.kind
  have h3 := netP_len (nameP x.kind) (by omega)
  rw [frontN_eq, List.length_append]
  omega
include hH in
theorem merkP_len (n : Nat) (t : List Ent) (x : Ent) : (merkP H n t x).length ≤ 32 := by
  cases n with
  | zero => exact Nat.zero_le _
  | succ n =>
    show (merkF H netP numP nameP (n + 1) t x).length ≤ 32
    rw [merkF]
    split <;> exact hH _
/-- What a directory's digest is made of, up to k entries. -/
def dirText (n : Nat) (t : List Ent) (x : Ent) (l : List Ent) : Bytes := frontN x ++ numP (listT t x.path).length ++ l.flatMap fun y => netP (lastP y.path) ++ netP (merkP H n t y)
theorem dirText_snoc (n : Nat) (t : List Ent) (x : Ent) (l : List Ent) (y : Ent) : dirText H n t x (l ++ [y]) = dirText H n t x l ++ (netP (lastP y.path) ++ netP (merkP H n t y)) := by
  simp [dirText]
theorem merk_dir (n : Nat) (t : List Ent) {x : Ent} (h : x.kind = 2) : merkP H (n + 1) t x = H (dirText H n t x (listT t x.path)) := by
  show merkF H netP numP nameP (n + 1) t x = _
  rw [merkF, if_pos h]; rfl
theorem merk_leaf (n : Nat) (t : List Ent) {x : Ent} (h : x.kind ≠ 2) : merkP H (n + 1) t x = H (frontN x ++ netP x.target ++ numP x.size ++ netP x.digest) := by
  show merkF H netP numP nameP (n + 1) t x = _
  rw [merkF, if_neg h]
theorem lastP_len (p : Bytes) : (lastP p).length ≤ p.length := by
  unfold lastP els
  split
  · simp
  · rw [List.getLastD_eq_getLast?, List.getLast?_eq_some_getLast (elsGo_ne p [])]
    have := elsGo_len p [] _ (List.getLast_mem (elsGo_ne p []))
    simpa using this
include hH in
theorem dirText_len {n : Nat} {t : List Ent} {x : Ent} (h : DgOk x) (ht : t.length ≤ 100000) (hd : ∀ y ∈ t, y.path.length ≤ 200) : ∀ (l : List Ent), (∀ y ∈ l, y ∈ t) → (dirText H n t x l).length ≤ 2400 + 300 * l.length := by
  intro l hl
  have h1 := frontN_len h
  have h2 : (listT t x.path).length ≤ t.length := List.length_filter_le _ _
  have h3 := numP_len (listT t x.path).length (by omega)
  have h4 : (l.flatMap fun y => netP (lastP y.path) ++ netP (merkP H n t y)).length ≤ 300 * l.length := by
    clear h1 h2 h3
    induction l with
    | nil => simp
    | cons y l ih =>
      have k1 := ih fun z hz => hl z (List.mem_cons_of_mem _ hz)
      have k2 := hd y (hl y (List.mem_cons_self ..))
      have k3 := lastP_len y.path
      have k4 := netP_len (lastP y.path) (by omega)
      have k5 := merkP_len H hH n t y
      have k6 := netP_len (merkP H n t y) (by omega)
      simp only [List.flatMap_cons, List.length_append, List.length_cons]
      omega
  unfold dirText
  rw [List.length_append, List.length_append]
  omega
end
end Go.Proofs.YtcbmdghnlbieeaaGreatDoor
namespace Go.Proofs.YtcbmdghnlbieeaaGreatDoor
open Go.RowKit Go.Lib

theorem repeatL_one (c : UInt8) : ∀ n, repeatL [c] n = List.replicate n c
  | 0 => rfl
  | n + 1 => by rw [repeatL, repeatL_one c n, List.replicate_succ]; rfl
theorem lib_Repeat (l : Bytes) (c : Int) (w : World) (h0 : 0 ≤ c) (hc : c ≤ 9223372036854775807) (hl : l.length * c.toNat ≤ 140737488355328) :
    Calls Tryz.prog 94 #[S l, .int .i64 c] w fun e w' => e = .returned (S (repeatL l c.toNat)) ∧ Below w.heap.size w w' := by
  obtain ⟨c, rfl⟩ := Int.eq_ofNat_of_zero_le h0
  have h := Tryz.strings_Repeat ⟨l.toArray⟩ c w (by omega) (by rw [ByteArray.size_mk', List.size_toArray]; simpa using hl)
  simpa using h
theorem join_nothing (l : List Bytes) : Lib.join l [] = l.flatten := by
  unfold Lib.join List.intercalate
  induction l with
  | nil => rfl
  | cons x l ih =>
    cases l with
    | nil => rfl
    | cons y l => rw [List.intersperse_cons_cons, List.flatten_cons, List.flatten_cons, ih, List.flatten_cons]; rfl
theorem lib_JoinE (b off cap : Nat) (l : List Bytes) (w : World) (hc : ∀ (j : Nat) x, l[j]? = some x → w.cell? ⟨b, off + j, none⟩ = some (S x)) (hcap : l.length ≤ cap) (hb : b < w.heap.size) (hn : l.length ≤ 1000000) (hl : l.flatten.length ≤ 140737488355328) :
    Calls Tryz.prog 78 #[.slice (some ⟨b, off, none⟩) l.length cap, S []] w fun e w' => e = .returned (S l.flatten) ∧ Below w.heap.size w w' := by
  have hx : (l.map fun s => (⟨s.toArray⟩ : ByteArray)).map (·.data.toList) = l := by
    rw [List.map_map]
    conv => rhs; rw [← List.map_id l]
    apply List.map_congr_left
    intro b _
    simp
  have hjl : Lib.join ((l.map fun s => (⟨s.toArray⟩ : ByteArray)).map (·.data.toList)) (⟨[].toArray⟩ : ByteArray).data.toList = l.flatten := by rw [hx]; exact join_nothing l
  have h := Tryz.strings_Join b off cap (l.map fun s => ⟨s.toArray⟩) ⟨[].toArray⟩ w (fun j x hx => ?_) hb (by rw [List.length_map]; omega) (by rw [List.length_map]; exact hcap) (by rw [hjl]; exact hl)
  · rw [hjl, List.length_map] at h
    exact h
  · rw [List.getElem?_map] at hx
    cases hlj : l[j]? with
    | none => rw [hlj] at hx; simp at hx
    | some s =>
      rw [hlj] at hx
      simp at hx
      subst hx
      exact hc j s hlj

/-- Where the last slash stands. -/
def slashAt (s : Bytes) : Int := Lib.lastIndexByte ⟨s.toArray⟩ 47
theorem lib_LastSlash (s : Bytes) (hs : s.length < 4611686018427387904) (w : World) :
    Calls Tryz.prog 62 #[S s, S [47]] w fun e w' => e = .returned (.int .i64 (slashAt s)) ∧ w' = w :=
  Tryz.strings_LastIndex_one ⟨s.toArray⟩ ⟨[47].toArray⟩ rfl (by simpa [ByteArray.size] using hs) w
theorem slashAt_name (s : Bytes) : 0 ≤ slashAt s + 1 ∧ slashAt s + 1 ≤ s.length ∧ s.drop (slashAt s + 1).toNat = lastP s := by
  have hsz : (⟨s.toArray⟩ : ByteArray).size = s.length := by simp [ByteArray.size]
  have hat : ∀ j, j < s.length → ∃ h : j < s.length, (((⟨s.toArray⟩ : ByteArray).data[j]!).toNat : Int) = (s[j].toNat : Int) := fun j hj => ⟨hj, by
    rw [getElem!_pos (⟨s.toArray⟩ : ByteArray).data j (by simpa using hj)]; simp⟩
  unfold slashAt Lib.lastIndexByte
  rw [hsz]
  rcases Lib.lastIdx_spec ⟨s.toArray⟩ 47 s.length with ⟨h1, h2⟩ | ⟨i, hi, h1, h2, h3⟩
  · rw [h1]
    refine ⟨by omega, by omega, ?_⟩
    show s.drop 0 = _
    rw [List.drop_zero, lastP_none]
    intro c hc e
    obtain ⟨j, hj, rfl⟩ := List.getElem_of_mem hc
    obtain ⟨_, hh⟩ := hat j hj
    have := h2 j hj
    rw [hh, e] at this
    exact this rfl
  · rw [h1]
    refine ⟨by omega, by omega, ?_⟩
    rw [show ((i : Int) + 1).toNat = i + 1 by omega]
    obtain ⟨_, hh⟩ := hat i hi
    have he : s[i] = 47 := by
      rw [hh] at h2
      apply UInt8.toNat_inj.1
      exact_mod_cast h2
    have hs : s = s.take i ++ 47 :: s.drop (i + 1) := by
      conv => lhs; rw [← List.take_append_drop i s]
      rw [List.drop_eq_getElem_cons hi, he]
    have hB : ∀ c ∈ s.drop (i + 1), c ≠ 47 := by
      intro c hc e
      obtain ⟨j, hj, rfl⟩ := List.getElem_of_mem hc
      rw [List.getElem_drop] at e
      simp at hj
      obtain ⟨_, hh⟩ := hat (i + 1 + j) (by omega)
      have := h3 (i + 1 + j) (by omega) (by omega)
      rw [hh, e] at this
      exact this rfl
    conv => rhs; rw [hs]
    rw [lastP_cut _ _ hB]
end Go.Proofs.YtcbmdghnlbieeaaGreatDoor
namespace Go.Proofs.YtcbmdghnlbieeaaGreatDoor
open Go.RowKit Go.Lib

theorem builder_below {T e : TypeId} {B b : Nat} {bs : List Value} {w w' : World} (h : Lib.IsBuilder T e B b bs w) (hb : Below w.heap.size w w') : Lib.IsBuilder T e B b bs w' := by
  have key : ∀ p, Lib.BuilderAt T e B b p bs w → Lib.BuilderAt T e B b p bs w' := fun p h => by
    have hlt := h.lt
    obtain ⟨hB, v, hv, hown, hne⟩ := h
    refine ⟨hB, v, (hb.block b hlt).trans hv, hown.kept (row := none) ⟨hb.os, hb.tape, hb.output, hb.size, fun k hk _ => hb.block k hk⟩ ?_, hne⟩
    cases v.ownBlock <;> simp
  rcases h with h | h
  · exact .inl (key _ h)
  · exact .inr (key _ h)

set_option maxRecDepth 100000 in
set_option maxHeartbeats 400000 in
theorem net_String (I : IH) (hI : Glob I) (s : Bytes) (hs : s.length ≤ 140737488355200) (w : World) (hw : Ok I w) :
    Calls Tryz.prog 58 #[S s] w fun e w' => e = .returned (S (netP s)) ∧ Below w.heap.size w w' := by
  have hil := itoa_len s.length (by omega)
  go_enter Tryz.func58, Tryz.ntmps58
  go_wp2_with fail
  refine (lib_Itoa I hI _ _ hw (by omega) (by omega)).mono ?_
  rintro e w1 ⟨rfl, hb1⟩
  go_wp2
  go_ret
  exact ⟨ret_s (by simp [netP]), hb1⟩

set_option maxRecDepth 100000 in
set_option maxHeartbeats 400000 in
theorem net_Number (I : IH) (hI : Glob I) (n : Nat) (hn : n ≤ 140737488355200) (w : World) (hw : Ok I w) :
    Calls Tryz.prog 61 #[.int .i64 n] w fun e w' => e = .returned (S (numP n)) ∧ Below w.heap.size w w' := by
  have hil := itoa_len n (by omega)
  go_enter Tryz.func61, Tryz.ntmps61
  go_wp2_with fail
  refine (lib_Itoa I hI _ _ hw (by omega) (by omega)).mono ?_
  rintro e w1 ⟨rfl, hb1⟩
  go_wp2
  go_ret
  exact ⟨rfl, hb1⟩

/-- strings at the cells of a slice. -/
def StrsAt (w : World) (b off : Nat) (l : List Bytes) : Prop := ∀ (j : Nat) x, l[j]? = some x → w.cell? ⟨b, off + j, none⟩ = some (S x)
theorem StrsAt.thru {w w' : World} {b off : Nat} {l : List Bytes} (h : StrsAt w b off l) (hb : Below w.heap.size w w') : StrsAt w' b off l := fun j x hx => cell_thru hb (h j x hx)

theorem strsAt_new (W : World) (l : List Bytes) (T : TypeId) : StrsAt (W.alloc (.cells (l.map fun s => S s).toArray T)) W.heap.size 0 l := fun j x hx => by
  rw [cell_of_row _ W.heap.size _ _ _ _ (heap_alloc_new W _), Nat.zero_add, List.getElem?_toArray, List.getElem?_map, hx]
  rfl

set_option maxRecDepth 100000 in
set_option maxHeartbeats 800000 in
theorem net_Strings (I : IH) (hI : Glob I) (b off cap n : Nat) (l : List Bytes) (hln : l.length = n) (hcap : l.length ≤ cap) (hcm : cap ≤ maxLen) (w : World) (hv : StrsAt w b off l) (hs : (netsP l).length ≤ 140737488355200) (hw : Ok I w) :
    Calls Tryz.prog 63 #[.slice (some ⟨b, off, none⟩) n cap] w fun e w' => e = .returned (S (netsP l)) ∧ Below w.heap.size w w' := by
  subst hln
  have hlen : l.length ≤ 9223372036854775807 := by unfold maxLen at hcm; omega
  have Hv := Lib.hid hv; clear hv
  have hfr : Lib.IsBuilder 94 5 w.heap.size w.heap.size (Lib.byteCells (netsP (l.take 0))) (w.alloc (.cells #[.pointer none, .slice none 0 0] 94)) := Lib.fresh_isBuilder _ _ w
  have Hfr := Lib.hid hfr; clear hfr
  go_enter Tryz.func63, Tryz.ntmps63
  go_wp2_with fail
  go_loopw [8] (fun s8 wr => ∃ k : Nat, k ≤ l.length ∧ s8 = .int .i64 k ∧ Lib.IsBuilder 94 5 w.heap.size w.heap.size (Lib.byteCells (netsP (l.take k))) wr ∧ Below w.heap.size w wr ∧ w.heap.size < wr.heap.size) (fun i _ => l.length - (intOf i).toNat)
  case atStart => exact ⟨0, Nat.zero_le _, rfl, Hfr.out, (Below.refl _ _).alloc (Nat.le_refl _) _, by simp⟩
  case round =>
    obtain ⟨k, hk, rfl, hbd, hb, hsz⟩ := hrel
    have Hbd := Lib.hid hbd; clear hbd
    have hwr : Ok I wr := hw.below (Nat.le_refl _) hb
    by_cases hlt : k < l.length
    · obtain ⟨s, hls⟩ : ∃ s, l[k] = s := ⟨_, rfl⟩
      have hc : wr.cell? ⟨b, off + k, none⟩ = some (S s) := cell_thru hb (Hv.out k s (by rw [List.getElem?_eq_getElem hlt, hls]))
      have Htk := Lib.hid (show netsP (l.take (k + 1)) = netsP (l.take k) ++ netP s by rw [List.take_succ_eq_append_getElem hlt, netsP_append, hls]; simp [netsP])
      have Hall := Lib.hid (show netsP l = netsP (l.take (k + 1)) ++ netsP (l.drop (k + 1)) by rw [← netsP_append, List.take_append_drop])
      have hbig : (netsP (l.take k)).length + (netP s).length ≤ 140737488355200 := by
        rw [Hall.out, Htk.out] at hs; simp at hs; omega
      have hsl : s.length ≤ 140737488355200 := by
        have : s.length ≤ (netP s).length := by simp [netP]; omega
        omega
      clear hls
      go_wp2_with fail
      refine (net_String I hI s hsl _ hwr).mono ?_
      rintro e w1 ⟨rfl, hb1⟩
      have hbd1 := builder_below Hbd.out hb1
      have hsz1 := hb1.size
      go_wp2_with fail
      refine (Tryz.Builder_WriteString w.heap.size w.heap.size _ _ _ hbd1 (by rw [ByteArray.size_mk', List.size_toArray]; simp [Lib.byteCells]; omega) (by omega)).mono ?_
      rintro e w2 ⟨rfl, hbd2, hb2⟩
      have hsz2 := hbd2.lt
      have Hbd2 : Hid (Lib.IsBuilder 94 5 w.heap.size w.heap.size (Lib.byteCells (netsP (l.take (k + 1)))) w2) := Lib.hid (.inr (by
        have := hbd2
        rw [Lib.strCells_toArray, Lib.byteCells, Lib.byteCells, ← List.map_append, ← Htk.out] at this
        exact this))
      clear hbd1 hbd2
      go_wp2
      go_roundw
      case rel => exact ⟨k + 1, by omega, by go_num, Hbd2.out, (hb.trans (hb1.mono (Nat.le_of_lt hsz))).trans hb2, by omega⟩
      case measure => simp [intOf]; omega
    · have hke : l.take k = l := List.take_of_length_le (by omega)
      rw [hke] at Hbd
      clear hke
      go_wp2_with fail
      refine (Tryz.Builder_String_any w.heap.size w.heap.size _ _ Hbd.out (Nat.le_of_lt hsz)).mono ?_
      rintro e w1 ⟨rfl, hb1⟩
      go_wp2
      go_ret
      exact ⟨rfl, hb.trans hb1⟩
def tenDigits : Bytes := [48, 49, 50, 51, 52, 53, 54, 55, 56, 57]
theorem tenDigits_at (u : Nat) (h : u < 10) : (tenDigits.drop u).take (u + 1 - u) = decDigits u := by
  rw [decDigits_one h]
  match u, h with
  | 0, _ => rfl
  | 1, _ => rfl
  | 2, _ => rfl
  | 3, _ => rfl
  | 4, _ => rfl
  | 5, _ => rfl
  | 6, _ => rfl
  | 7, _ => rfl
  | 8, _ => rfl
  | 9, _ => rfl

theorem decDigits_big {n : Nat} (h : ¬ n < 10) : decDigits n = decDigits (n / 10) ++ decDigits (n % 10) := by
  rw [decDigits_one (i := n % 10) (by omega), decDigits.eq_def n, dif_neg h]

set_option maxRecDepth 100000 in
set_option maxHeartbeats 400000 in
theorem ref02_digits (u : Nat) (hu : u < 18446744073709551616) : ∀ w : World, Calls Tryz.prog 151 #[.int .u64 u] w fun e w' => e = .returned (S (decDigits u)) ∧ Below w.heap.size w w' := by
  induction u using Nat.strongRecOn with
  | ind u ih =>
    intro w
    have hl1 : (decDigits u).length ≤ 20 := by rw [decDigits_length]; exact nDigits_le _ _ (by omega) (by omega)
    by_cases h : u < 10
    · have Ht := Lib.hid (tenDigits_at u h)
      clear ih hl1
      go_enter Tryz.func151, Tryz.ntmps151
      go_wp2
      go_ret
      exact ⟨ret_s (by have h := Ht.out; rwa [show u + 1 - u = 1 by omega] at h), Below.refl _ _⟩
    · have Hd := Lib.hid (decDigits_big h)
      have hi1 := ih (u / 10) (by omega) (by omega)
      have hi2 := ih (u % 10) (by omega) (by omega)
      have hl2 : (decDigits (u / 10)).length + (decDigits (u % 10)).length ≤ 20 := by rw [Hd.out, List.length_append] at hl1; exact hl1
      have Hi1 := Lib.hid hi1
      have Hi2 := Lib.hid hi2
      rw [show ((u / 10 : Nat) : Int) = (u : Int) / 10 by omega] at Hi1
      rw [show ((u % 10 : Nat) : Int) = (u : Int) % 10 by omega] at Hi2
      clear ih hi1 hi2 hl1
      go_enter Tryz.func151, Tryz.ntmps151
      go_wp2_with fail
      refine (Hi1.out _).mono ?_
      rintro e w1 ⟨rfl, hb1⟩
      go_wp2_with fail
      refine (Hi2.out _).mono ?_
      rintro e w2 ⟨rfl, hb2⟩
      go_wp2
      go_ret
      exact ⟨ret_s Hd.out.symm, hb1.trans (hb2.mono hb1.size)⟩

set_option maxRecDepth 100000 in
set_option maxHeartbeats 400000 in
theorem ref02_Dec (n : Nat) (hn : n ≤ 9223372036854775807) (w : World) : Calls Tryz.prog 126 #[.int .i64 n] w fun e w' => e = .returned (S (itoa n)) ∧ Below w.heap.size w w' := by
  have Hi := Lib.hid (show itoa (n : Int) = decDigits n by simp [itoa])
  have hw : IntKind.u64.wrap (n : Int) = n := IntWalk.u64_in _ (by omega)
  go_enter Tryz.func126, Tryz.ntmps126
  go_wp2_with fail
  refine (ref02_digits n (by omega) _).mono ?_
  rintro e w1 ⟨rfl, hb1⟩
  go_wp2
  go_ret
  exact ⟨ret_s Hi.out.symm, hb1⟩

set_option maxRecDepth 100000 in
set_option maxHeartbeats 400000 in
theorem ref02_String (s : Bytes) (hs : s.length ≤ 140737488355200) (w : World) :
    Calls Tryz.prog 97 #[S s] w fun e w' => e = .returned (S (netP s)) ∧ Below w.heap.size w w' := by
  have hil := itoa_len s.length (by omega)
  go_enter Tryz.func97, Tryz.ntmps97
  go_wp2_with fail
  refine (ref02_Dec _ (by omega) _).mono ?_
  rintro e w1 ⟨rfl, hb1⟩
  go_wp2
  go_ret
  exact ⟨ret_s (by simp [netP]), hb1⟩

set_option maxRecDepth 100000 in
set_option maxHeartbeats 400000 in
theorem ref02_Number (n : Nat) (hn : n ≤ 140737488355200) (w : World) :
    Calls Tryz.prog 100 #[.int .i64 n] w fun e w' => e = .returned (S (numP n)) ∧ Below w.heap.size w w' := by
  have hil := itoa_len n (by omega)
  go_enter Tryz.func100, Tryz.ntmps100
  go_wp2_with fail
  refine (ref02_Dec n (by omega) _).mono ?_
  rintro e w1 ⟨rfl, hb1⟩
  go_wp2
  go_ret
  exact ⟨rfl, hb1⟩
end Go.Proofs.YtcbmdghnlbieeaaGreatDoor
