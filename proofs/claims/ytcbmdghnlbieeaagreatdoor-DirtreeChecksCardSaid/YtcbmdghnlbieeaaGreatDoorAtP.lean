/-
  Plain laws of attributes: lists that rise by their keys. No program.
-/
import Derived.Test.YtcbmdghnlbieeaaGreatDoorOrd
namespace Go.Proofs.YtcbmdghnlbieeaaGreatDoor

structure At where
  k : Bytes
  v : Bytes
deriving DecidableEq

def keyChar (c : UInt8) : Bool := decide (97 ≤ c) && decide (c ≤ 122) || decide (48 ≤ c) && decide (c ≤ 57) || c == 46 || c == 95 || c == 45
def keyOk (s : Bytes) : Bool := decide (1 ≤ s.length) && decide (s.length ≤ 32) && s.all keyChar
/-- Why an attribute is invalid. -/
def atErr (x : At) : Int := if keyOk x.k = false then 7 else if 64 < x.v.length then 6 else 0
/-- Why a list is invalid, behind an attribute (if any). -/
def chkFrom : Option At → List At → Int
  | _, [] => 0
  | p, x :: l => if atErr x ≠ 0 then atErr x else if (p.any fun q => q.k == x.k) then 8 else if (p.any fun q => Op.bytesLess x.k q.k) then 14 else chkFrom (some x) l
def chk (l : List At) : Int := if 16 < l.length then 6 else chkFrom none l
def getA (l : List At) (k : Bytes) : Bytes × Bool := match l.find? (fun x => x.k == k) with | some x => (x.v, true) | none => ([], false)
def remA (l : List At) (k : Bytes) : List At := l.filter fun x => !(x.k == k)
def putGo (x : At) : Bool → List At → List At → List At
  | d, out, [] => if d then out else out ++ [x]
  | d, out, y :: l => putGo x (d || !(Op.bytesLess y.k x.k)) ((if !d && !(Op.bytesLess y.k x.k) then out ++ [x] else out) ++ (if y.k == x.k then [] else [y])) l
def putA (l : List At) (x : At) : List At := putGo x false [] l
def mrgA (a b : List At) : List At := b.foldl putA a
def setA (l : List At) (x : At) : List At × Int := if chk l ≠ 0 then ([], chk l) else if atErr x ≠ 0 then ([], atErr x) else if 16 < (putA l x).length then ([], 6) else (putA l x, 0)
def mergeA (a b : List At) : List At × Int := if chk a ≠ 0 then ([], chk a) else if chk b ≠ 0 then ([], chk b) else if 16 < (mrgA a b).length then ([], 6) else (mrgA a b, 0)
def GreatA (l : List At) : Prop := 30 < l.length ∨ ∃ x ∈ l, 100 < x.k.length ∨ 100 < x.v.length

/-- A valid list. -/
structure Okl (l : List At) : Prop where
  len : l.length ≤ 16
  all : ∀ x ∈ l, atErr x = 0
  srt : Srt At.k l

theorem chkFrom_eq (l : List At) : ∀ p : Option At, chkFrom p l = 0 ↔ (∀ x ∈ l, atErr x = 0) ∧ (∀ q, p = some q → ∀ x ∈ l, Op.bytesLess q.k x.k = true) ∧ Srt At.k l := by
  induction l with
  | nil => intro p; simp [chkFrom, srt_nil]
  | cons x l ih =>
    intro p
    rw [chkFrom]
    by_cases h0 : atErr x = 0
    · rw [if_neg (by simpa using h0)]
      have key : ∀ q : At, ((q.k == x.k) = false ∧ Op.bytesLess x.k q.k = false) ↔ Op.bytesLess q.k x.k = true := by
        intro q
        constructor
        · rintro ⟨h1, h2⟩
          rcases bl_total q.k x.k with h | h | h
          · exact h
          · rw [h] at h1; simp at h1
          · rw [h] at h2; exact absurd h2 (by simp)
        · intro h
          exact ⟨by simpa using bl_ne h, bl_asymm h⟩
      cases p with
      | none =>
        simp only [Option.any_none, Bool.false_eq_true, if_false]
        rw [ih, srt_cons]
        constructor
        · rintro ⟨h1, h2, h3⟩
          exact ⟨by simpa [h0] using h1, by simp, h2 x rfl, h3⟩
        · rintro ⟨h1, _, h2, h3⟩
          exact ⟨fun r hr => h1 r (List.mem_cons_of_mem _ hr), fun q hq r hr => by cases hq; exact h2 r hr, h3⟩
      | some q =>
        simp only [Option.any_some]
        by_cases hb : Op.bytesLess q.k x.k = true
        · obtain ⟨k1, k2⟩ := (key q).2 hb
          rw [if_neg (by simp [k1]), if_neg (by simp [k2]), ih, srt_cons]
          constructor
          · rintro ⟨h1, h2, h3⟩
            refine ⟨by simpa [h0] using h1, ?_, h2 x rfl, h3⟩
            intro q' hq' r hr
            cases hq'
            rcases List.mem_cons.1 hr with rfl | hr
            · exact hb
            · exact bl_trans hb (h2 x rfl r hr)
          · rintro ⟨h1, _, h2, h3⟩
            exact ⟨fun r hr => h1 r (List.mem_cons_of_mem _ hr), fun q hq r hr => by cases hq; exact h2 r hr, h3⟩
        · have hr : ¬ ((∀ r ∈ x :: l, atErr r = 0) ∧ (∀ q', some q = some q' → ∀ r ∈ x :: l, Op.bytesLess q'.k r.k = true) ∧ Srt At.k (x :: l)) := fun ⟨_, h, _⟩ => hb (h q rfl x (List.mem_cons_self ..))
          constructor
          · intro h
            split at h
            · omega
            · split at h
              · omega
              · rename_i n1 n2
                exact absurd ((key q).1 ⟨by simpa using n1, by simpa using n2⟩) hb
          · intro h; exact absurd h hr
    · rw [if_pos (by simpa using h0)]
      constructor
      · intro h; exact absurd h h0
      · rintro ⟨h, _⟩; exact absurd (h x (List.mem_cons_self ..)) h0

theorem chk_eq (l : List At) : chk l = 0 ↔ Okl l := by
  unfold chk
  by_cases h : 16 < l.length
  · rw [if_pos h]
    constructor
    · intro h; omega
    · intro k; have := k.len; omega
  · rw [if_neg h, chkFrom_eq]
    constructor
    · rintro ⟨h1, _, h3⟩; exact ⟨by omega, h1, h3⟩
    · rintro ⟨h1, h2, h3⟩; exact ⟨h2, by simp, h3⟩

theorem putGo_done (x : At) (l : List At) : ∀ out, putGo x true out l = out ++ l.filter fun y => !(y.k == x.k) := by
  induction l with
  | nil => intro out; simp [putGo]
  | cons y l ih =>
    intro out
    rw [putGo]
    simp only [Bool.true_or, Bool.not_true, Bool.false_and, Bool.false_eq_true, if_false]
    rw [ih, List.filter_cons]
    cases h : (y.k == x.k) <;> simp

/-- Where put puts. -/
theorem putA_split {l : List At} (h : Srt At.k l) (x : At) : ∃ A B, putA l x = A ++ x :: B ∧ (∀ a ∈ A, a ∈ l ∧ Op.bytesLess a.k x.k = true) ∧ (∀ b ∈ B, b ∈ l ∧ Op.bytesLess x.k b.k = true) ∧ (∀ z ∈ l, z.k ≠ x.k → z ∈ A ∨ z ∈ B) ∧ Srt At.k A ∧ Srt At.k B := by
  have key : ∀ (l : List At), Srt At.k l → ∀ out, ∃ A B, putGo x false out l = out ++ (A ++ x :: B) ∧ (∀ a ∈ A, a ∈ l ∧ Op.bytesLess a.k x.k = true) ∧ (∀ b ∈ B, b ∈ l ∧ Op.bytesLess x.k b.k = true) ∧ (∀ z ∈ l, z.k ≠ x.k → z ∈ A ∨ z ∈ B) ∧ Srt At.k A ∧ Srt At.k B := by
    intro l
    induction l with
    | nil => intro _ out; exact ⟨[], [], by simp [putGo], by simp, by simp, by simp, srt_nil, srt_nil⟩
    | cons y l ih =>
      intro hs out
      obtain ⟨h1, h2⟩ := srt_cons.1 hs
      rw [putGo]
      cases hb : Op.bytesLess y.k x.k
      · simp only [Bool.not_false, Bool.or_true, Bool.and_self, if_true]
        rw [putGo_done]
        have hrest : ∀ z ∈ l, Op.bytesLess x.k z.k = true := by
          intro z hz
          rcases bl_total x.k y.k with e | e | e
          · exact bl_trans e (h1 z hz)
          · rw [e]; exact h1 z hz
          · rw [e] at hb; exact absurd hb (by simp)
        have hf : (l.filter fun z => !(z.k == x.k)) = l := List.filter_eq_self.2 fun z hz => by
          have := (bl_ne (hrest z hz)).symm
          simpa using this
        rw [hf]
        by_cases e : y.k = x.k
        · rw [if_pos (by simpa using e)]
          refine ⟨[], l, by simp, by simp, fun b hb => ⟨List.mem_cons_of_mem _ hb, hrest b hb⟩, fun z hz hne => ?_, srt_nil, h2⟩
          rcases List.mem_cons.1 hz with rfl | hz
          · exact absurd e hne
          · exact .inr hz
        · have hyx : Op.bytesLess x.k y.k = true := by
            rcases bl_total x.k y.k with h | h | h
            · exact h
            · exact absurd h.symm e
            · rw [h] at hb; exact absurd hb (by simp)
          rw [if_neg (by simpa using e)]
          refine ⟨[], y :: l, by simp, by simp, fun b hb => ⟨hb, ?_⟩, fun z hz _ => .inr hz, srt_nil, hs⟩
          rcases List.mem_cons.1 hb with rfl | hb
          · exact hyx
          · exact hrest b hb
      · have hne : (y.k == x.k) = false := by simpa using bl_ne hb
        simp only [Bool.not_true, Bool.or_false, Bool.and_false, Bool.false_eq_true, if_false, hne]
        obtain ⟨A, B, e, a1, a2, a3, a4, a5⟩ := ih h2 (out ++ [y])
        refine ⟨y :: A, B, by rw [e]; simp, fun a ha => ?_, fun b hb => ⟨List.mem_cons_of_mem _ (a2 b hb).1, (a2 b hb).2⟩, fun z hz hzn => ?_, srt_cons.2 ⟨fun a ha => h1 a (a1 a ha).1, a4⟩, a5⟩
        · rcases List.mem_cons.1 ha with rfl | ha
          · exact ⟨List.mem_cons_self .., hb⟩
          · exact ⟨List.mem_cons_of_mem _ (a1 a ha).1, (a1 a ha).2⟩
        · rcases List.mem_cons.1 hz with rfl | hz
          · exact .inl (List.mem_cons_self ..)
          · rcases a3 z hz hzn with h | h
            · exact .inl (List.mem_cons_of_mem _ h)
            · exact .inr h
  obtain ⟨A, B, e, r⟩ := key l h []
  exact ⟨A, B, e, r⟩

theorem putA_srt {l : List At} (h : Srt At.k l) (x : At) : Srt At.k (putA l x) := by
  obtain ⟨A, B, e, a1, a2, _, a4, a5⟩ := putA_split h x
  rw [e]
  refine srt_append.2 ⟨a4, srt_cons.2 ⟨fun b hb => (a2 b hb).2, a5⟩, fun a ha b hb => ?_⟩
  rcases List.mem_cons.1 hb with rfl | hb
  · exact (a1 a ha).2
  · exact bl_trans (a1 a ha).2 (a2 b hb).2
theorem putA_mem {l : List At} (h : Srt At.k l) (x z : At) : z ∈ putA l x ↔ z = x ∨ (z ∈ l ∧ z.k ≠ x.k) := by
  obtain ⟨A, B, e, a1, a2, a3, _, _⟩ := putA_split h x
  rw [e, List.mem_append, List.mem_cons]
  constructor
  · rintro (hz | hz | hz)
    · exact .inr ⟨(a1 z hz).1, bl_ne (a1 z hz).2⟩
    · exact .inl hz
    · exact .inr ⟨(a2 z hz).1, (bl_ne (a2 z hz).2).symm⟩
  · rintro (hz | ⟨hz, hn⟩)
    · exact .inr (.inl hz)
    · rcases a3 z hz hn with h | h
      · exact .inl h
      · exact .inr (.inr h)

/-- Two rising lists with the same attributes are the same. -/
theorem at_ext {A B : List At} (hA : Srt At.k A) (hB : Srt At.k B) (h : ∀ x, x ∈ A ↔ x ∈ B) : A = B := srt_unique hA hB h
theorem srt_nodup {l : List At} (h : Srt At.k l) : l.Nodup := h.imp fun {a b} hab e => by
  rw [e, bl_irrefl] at hab; exact absurd hab (by simp)
theorem nodup_len : ∀ {A B : List Bytes}, A.Nodup → (∀ x ∈ A, x ∈ B) → A.length ≤ B.length
  | [], _, _, _ => Nat.zero_le _
  | x :: A, B, hn, hs => by
    obtain ⟨h1, h2⟩ := List.nodup_cons.1 hn
    have hx := hs x (List.mem_cons_self ..)
    have h3 := nodup_len (B := B.erase x) h2 fun y hy => (List.mem_erase_of_ne (a := y) (b := x) (fun e => h1 (by rw [← e]; exact hy))).2 (hs y (List.mem_cons_of_mem _ hy))
    rw [List.length_erase_of_mem hx] at h3
    have := List.length_pos_of_mem hx
    simp only [List.length_cons]
    omega
theorem len_le {A B : List At} (hA : Srt At.k A) (h : ∀ x ∈ A, ∃ y ∈ B, y.k = x.k) : A.length ≤ B.length := by
  have hn : (A.map At.k).Nodup := List.pairwise_map.2 (hA.imp fun {a b} hab => bl_ne hab)
  have hs : ∀ k ∈ A.map At.k, k ∈ B.map At.k := by
    intro k hk
    obtain ⟨x, hx, rfl⟩ := List.mem_map.1 hk
    obtain ⟨y, hy, e⟩ := h x hx
    rw [← e]
    exact List.mem_map_of_mem hy
  simpa using nodup_len hn hs

theorem mrgA_spec {b : List At} (hb : Srt At.k b) : ∀ {a : List At}, Srt At.k a → Srt At.k (mrgA a b) ∧ ∀ z, z ∈ mrgA a b ↔ z ∈ b ∨ (z ∈ a ∧ ∀ y ∈ b, y.k ≠ z.k) := by
  induction b with
  | nil => intro a ha; exact ⟨ha, fun z => by simp [mrgA]⟩
  | cons x b ih =>
    intro a ha
    obtain ⟨h1, h2⟩ := srt_cons.1 hb
    obtain ⟨i1, i2⟩ := ih h2 (putA_srt ha x)
    refine ⟨i1, fun z => ?_⟩
    show z ∈ mrgA (putA a x) b ↔ _
    rw [i2, putA_mem ha]
    constructor
    · rintro (hz | ⟨rfl | ⟨hz, hn⟩, hy⟩)
      · exact .inl (List.mem_cons_of_mem _ hz)
      · exact .inl (List.mem_cons_self ..)
      · refine .inr ⟨hz, fun y hm => ?_⟩
        rcases List.mem_cons.1 hm with rfl | hm
        · exact fun e => hn e.symm
        · exact hy y hm
    · rintro (hz | ⟨hz, hy⟩)
      · rcases List.mem_cons.1 hz with rfl | hz
        · exact .inr ⟨.inl rfl, fun y hm => (bl_ne (h1 y hm)).symm⟩
        · exact .inl hz
      · exact .inr ⟨.inr ⟨hz, fun e => hy x (List.mem_cons_self ..) e.symm⟩, fun y hm => hy y (List.mem_cons_of_mem _ hm)⟩
end Go.Proofs.YtcbmdghnlbieeaaGreatDoor
