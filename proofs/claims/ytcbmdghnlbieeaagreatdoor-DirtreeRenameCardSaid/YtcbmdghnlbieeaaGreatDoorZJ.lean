/-
  Plain laws of trees of entries: what Apply does. No program. Plain laws of trees of entries: Apply keeps a tree valid. No program. Plain laws of trees of entries: unrelated entries commute. No program. Plain laws of trees: where an entry is put. No program.
  Plain laws of trees of entries: where two trees differ. No program.
  Plain laws of trees of entries: differences, gathered and sorted. No program.
  Plain laws of trees of entries: digests, over any digest, any way to write numbers and strings. No program.
  Plain laws of trees of entries: trees that do not differ have one digest. No program.
  Plain laws of trees of entries: the digest of a tree that is moved below a new directory. No program.
  Plain laws of trees of entries: a tree put together anew below a new directory. No program.
-/
import Derived.Test.YtcbmdghnlbieeaaGreatDoorZA
namespace Go.Proofs.YtcbmdghnlbieeaaGreatDoor

abbrev ltE (x y : Ent) : Bool := ltP (els x.path) (els y.path)
theorem ltE_ne {x y : Ent} (h : ltE x y = true) : x.path ≠ y.path := fun e => ltP_ne h (by rw [e])
theorem ltE_total (x y : Ent) : ltE x y = true ∨ x.path = y.path ∨ ltE y x = true := by
  rcases ltP_total (els x.path) (els y.path) with h | h | h
  · exact .inl h
  · exact .inr (.inl (els_inj h))
  · exact .inr (.inr h)

def putTGo (e : Ent) : Bool → List Ent → List Ent → List Ent
  | d, out, [] => if d then out else out ++ [e]
  | d, out, y :: l => putTGo e (d || !(ltE y e)) ((if !d && !(ltE y e) then out ++ [e] else out) ++ (if y.path == e.path then [] else [y])) l
/-- An entry at its place in a tree, in the stead of one of its path. -/
def putT (t : List Ent) (e : Ent) : List Ent := putTGo e false [] t
def applyT (t : List Ent) (e : Ent) : List Ent × Int :=
  if entErr e ≠ 0 then ([], entErr e)
  else if 3 < e.kind then
    if getT t e.path = none ∧ e.path ≠ [] then ([], 9)
    else if e.kind = 4 then (t.filter fun x => !(under x.path e.path), 0) else (t, 0)
  else if dirErr t (upP e.path) ≠ 0 then ([], dirErr t (upP e.path))
  else match getT t e.path with
    | some y => if (y.kind == 2) != (e.kind == 2) then ([], 8) else (putT t e, 0)
    | none => if 5000 ≤ t.length then ([], 6) else (putT t e, 0)

theorem putTGo_done (e : Ent) (l : List Ent) : ∀ out, putTGo e true out l = out ++ l.filter fun y => !(y.path == e.path) := by
  induction l with
  | nil => intro out; simp [putTGo]
  | cons y l ih =>
    intro out
    rw [putTGo]
    simp only [Bool.true_or, Bool.not_true, Bool.false_and, Bool.false_eq_true, if_false]
    rw [ih, List.filter_cons]
    cases h : (y.path == e.path) <;> simp

theorem putT_split {t : List Ent} (h : SrtT t) (e : Ent) : ∃ A B, putT t e = A ++ e :: B ∧ (∀ a ∈ A, a ∈ t ∧ ltE a e = true) ∧ (∀ b ∈ B, b ∈ t ∧ ltE e b = true) ∧ (∀ z ∈ t, z.path ≠ e.path → z ∈ A ∨ z ∈ B) ∧ SrtT A ∧ SrtT B := by
  have key : ∀ (l : List Ent), SrtT l → ∀ out, ∃ A B, putTGo e false out l = out ++ (A ++ e :: B) ∧ (∀ a ∈ A, a ∈ l ∧ ltE a e = true) ∧ (∀ b ∈ B, b ∈ l ∧ ltE e b = true) ∧ (∀ z ∈ l, z.path ≠ e.path → z ∈ A ∨ z ∈ B) ∧ SrtT A ∧ SrtT B := by
    intro l
    induction l with
    | nil => intro _ out; exact ⟨[], [], by simp [putTGo], by simp, by simp, by simp, List.Pairwise.nil, List.Pairwise.nil⟩
    | cons y l ih =>
      intro hs out
      obtain ⟨h1, h2⟩ := List.pairwise_cons.1 hs
      rw [putTGo]
      cases hb : ltE y e
      · simp only [Bool.not_false, Bool.or_true, Bool.and_self, if_true]
        rw [putTGo_done]
        have hrest : ∀ z ∈ l, ltE e z = true := by
          intro z hz
          rcases ltE_total e y with k | k | k
          · exact ltP_trans k (h1 z hz)
          · show ltP (els e.path) _ = true
            rw [k]; exact h1 z hz
          · rw [hb] at k; exact absurd k (by simp)
        have hf : (l.filter fun z => !(z.path == e.path)) = l := List.filter_eq_self.2 fun z hz => by
          have := (ltE_ne (hrest z hz)).symm
          simpa using this
        rw [hf]
        by_cases k : y.path = e.path
        · rw [if_pos (by simpa using k)]
          refine ⟨[], l, by simp, by simp, fun b hb => ⟨List.mem_cons_of_mem _ hb, hrest b hb⟩, fun z hz hne => ?_, List.Pairwise.nil, h2⟩
          rcases List.mem_cons.1 hz with rfl | hz
          · exact absurd k hne
          · exact .inr hz
        · have hxy : ltE e y = true := by
            rcases ltE_total e y with h | h | h
            · exact h
            · exact absurd h.symm k
            · rw [h] at hb; exact absurd hb (by simp)
          rw [if_neg (by simpa using k)]
          refine ⟨[], y :: l, by simp, by simp, fun b hb => ⟨hb, ?_⟩, fun z hz _ => .inr hz, List.Pairwise.nil, hs⟩
          rcases List.mem_cons.1 hb with rfl | hb
          · exact hxy
          · exact hrest b hb
      · have hne : (y.path == e.path) = false := by simpa using ltE_ne hb
        simp only [Bool.not_true, Bool.or_false, Bool.and_false, Bool.false_eq_true, if_false, hne]
        obtain ⟨A, B, q, a1, a2, a3, a4, a5⟩ := ih h2 (out ++ [y])
        refine ⟨y :: A, B, by rw [q]; simp, fun a ha => ?_, fun b hb => ⟨List.mem_cons_of_mem _ (a2 b hb).1, (a2 b hb).2⟩, fun z hz hzn => ?_, List.pairwise_cons.2 ⟨fun a ha => h1 a (a1 a ha).1, a4⟩, a5⟩
        · rcases List.mem_cons.1 ha with rfl | ha
          · exact ⟨List.mem_cons_self .., hb⟩
          · exact ⟨List.mem_cons_of_mem _ (a1 a ha).1, (a1 a ha).2⟩
        · rcases List.mem_cons.1 hz with rfl | hz
          · exact .inl (List.mem_cons_self ..)
          · rcases a3 z hz hzn with h | h
            · exact .inl (List.mem_cons_of_mem _ h)
            · exact .inr h
  obtain ⟨A, B, q, r⟩ := key t h []
  exact ⟨A, B, q, r⟩

theorem putT_srt {t : List Ent} (h : SrtT t) (e : Ent) : SrtT (putT t e) := by
  obtain ⟨A, B, q, a1, a2, _, a4, a5⟩ := putT_split h e
  rw [q]
  refine List.pairwise_append.2 ⟨a4, List.pairwise_cons.2 ⟨fun b hb => (a2 b hb).2, a5⟩, fun a ha b hb => ?_⟩
  rcases List.mem_cons.1 hb with rfl | hb
  · exact (a1 a ha).2
  · exact ltP_trans (a1 a ha).2 (a2 b hb).2
theorem putT_mem {t : List Ent} (h : SrtT t) (e z : Ent) : z ∈ putT t e ↔ z = e ∨ (z ∈ t ∧ z.path ≠ e.path) := by
  obtain ⟨A, B, q, a1, a2, a3, _, _⟩ := putT_split h e
  rw [q, List.mem_append, List.mem_cons]
  constructor
  · rintro (hz | hz | hz)
    · exact .inr ⟨(a1 z hz).1, ltE_ne (a1 z hz).2⟩
    · exact .inl hz
    · exact .inr ⟨(a2 z hz).1, (ltE_ne (a2 z hz).2).symm⟩
  · rintro (hz | ⟨hz, hn⟩)
    · exact .inr (.inl hz)
    · rcases a3 z hz hn with h | h
      · exact .inl h
      · exact .inr (.inr h)
theorem getT_put {t : List Ent} (h : SrtT t) (e : Ent) : getT (putT t e) e.path = some e := getT_mem (putT_srt h e) ((putT_mem h e e).2 (.inl rfl))
theorem getT_put_ne {t : List Ent} (h : SrtT t) (e : Ent) {p : Bytes} (hp : p ≠ e.path) : getT (putT t e) p = getT t p := by
  cases hg : getT t p with
  | some x =>
    obtain ⟨hx, rfl⟩ := getT_some hg
    exact getT_mem (putT_srt h e) ((putT_mem h e x).2 (.inr ⟨hx, hp⟩))
  | none =>
    refine getT_none fun z hz k => ?_
    rcases (putT_mem h e z).1 hz with rfl | ⟨hz, _⟩
    · exact hp k.symm
    · have := getT_mem h hz
      rw [k, hg] at this
      exact absurd this (by simp)
end Go.Proofs.YtcbmdghnlbieeaaGreatDoor
namespace Go.Proofs.YtcbmdghnlbieeaaGreatDoor

theorem joinP_ne {l : List Bytes} (h : l ≠ []) (hc : ∀ p ∈ l, p ≠ []) : joinP l ≠ [] := by
  cases l with
  | nil => exact absurd rfl h
  | cons p l =>
    cases l with
    | nil => exact hc p (by simp)
    | cons q l => rw [joinP_cons p (by simp)]; simp
/-- The parts of what lies above a path. -/
theorem els_upP {p : Bytes} (h : pathErr p = 0) : els (upP p) = (els p).dropLast := by
  obtain ⟨_, _, hc⟩ := pathErr_ok h
  have hd : ∀ q ∈ (els p).dropLast, comp q = true := fun q hq => hc q (List.dropLast_subset _ hq)
  unfold upP
  by_cases hn : (els p).dropLast = []
  · rw [hn]; rfl
  · exact els_joinP (fun q hq => comp_noslash (hd q hq)) (joinP_ne hn fun q hq => comp_ne (hd q hq))
theorem upP_ne {p : Bytes} (h : pathErr p = 0) (hp : p ≠ []) : upP p ≠ p := by
  intro e
  have h1 := els_upP h
  rw [e] at h1
  have hl := congrArg List.length h1
  rw [List.length_dropLast] at hl
  have : els p ≠ [] := fun k => hp (els_nil.1 k)
  have := List.length_pos_iff.2 this
  omega
theorem under_up {p d : Bytes} (h : pathErr p = 0) (hu : under (upP p) d = true) : under p d = true := by
  simp only [under, Bool.and_eq_true, decide_eq_true_eq] at hu ⊢
  obtain ⟨⟨_, h2⟩, h3⟩ := hu
  refine ⟨⟨h, h2⟩, ?_⟩
  rw [List.isPrefixOf_iff_prefix] at h3 ⊢
  rw [els_upP h] at h3
  exact h3.trans (List.dropLast_prefix _)

theorem entErr_ok {e : Ent} (h : entErr e = 0) : 1 ≤ e.kind ∧ e.kind ≤ 6 ∧ pathErr e.path = 0 ∧ (e.path = [] → 5 ≤ e.kind) := by
  unfold entErr at h
  by_cases h1 : e.kind < 1 ∨ 6 < e.kind
  · rw [if_pos h1] at h; omega
  rw [if_neg h1] at h
  by_cases h2 : pathErr e.path = 0
  case neg => rw [if_pos h2] at h; exact absurd h h2
  rw [if_neg (by omega)] at h
  by_cases h3 : e.path = [] ∧ e.kind < 5
  · rw [if_pos h3] at h; omega
  exact ⟨by omega, by omega, h2, fun hp => Int.not_lt.1 fun hk => h3 ⟨hp, hk⟩⟩

theorem dirErr_eq {t : List Ent} {p : Bytes} : dirErr t p = 0 ↔ p = [] ∨ ∃ x, getT t p = some x ∧ x.kind = 2 := by
  unfold dirErr
  by_cases h : p = []
  · rw [if_pos h]; exact ⟨fun _ => .inl h, fun _ => rfl⟩
  · rw [if_neg h]
    cases hg : getT t p with
    | none =>
      constructor
      · intro k; simp at k
      · rintro (k | ⟨x, k, _⟩)
        · exact absurd k h
        · simp at k
    | some x =>
      show (if x.kind ≠ 2 then (10 : Int) else 0) = 0 ↔ _
      by_cases hk : x.kind = 2
      · rw [if_neg (by omega)]; exact ⟨fun _ => .inr ⟨x, rfl, hk⟩, fun _ => rfl⟩
      · rw [if_pos hk]
        constructor
        · intro k; omega
        · rintro (k | ⟨y, k, k'⟩)
          · exact absurd k h
          · cases k; exact absurd k' hk

/-- A put entry with a directory above it, of its elder's kind, keeps a tree valid. -/
theorem putT_ok {t : List Ent} (h : OkT t) {e : Ent} (he : entErr e = 0) (hk : e.kind = 1 ∨ e.kind = 2 ∨ e.kind = 3) (hu : dirErr t (upP e.path) = 0) (hs : ∀ y, getT t e.path = some y → (y.kind = 2 ↔ e.kind = 2)) : OkT (putT t e) := by
  obtain ⟨_, _, hp, hpe⟩ := entErr_ok he
  have hne : e.path ≠ [] := fun k => by have := hpe k; omega
  refine ⟨fun z hz => ?_, fun z hz => ?_, putT_srt h.srt e, fun z hz => ?_⟩
  · rcases (putT_mem h.srt e z).1 hz with rfl | ⟨hz, _⟩
    · exact he
    · exact h.ent z hz
  · rcases (putT_mem h.srt e z).1 hz with rfl | ⟨hz, _⟩
    · exact hk
    · exact h.kind z hz
  · have hz' : dirErr t (upP z.path) = 0 := by
      rcases (putT_mem h.srt e z).1 hz with rfl | ⟨hz, _⟩
      · exact hu
      · exact h.up z hz
    rw [dirErr_eq] at hz' ⊢
    rcases hz' with k | ⟨x, k, k'⟩
    · exact .inl k
    · by_cases q : upP z.path = e.path
      · refine .inr ⟨e, by rw [q]; exact getT_put h.srt e, ?_⟩
        rw [q] at k
        exact (hs x k).1 k'
      · exact .inr ⟨x, by rw [getT_put_ne h.srt e q]; exact k, k'⟩
/-- Without a path and what is under it a tree is still valid. -/
theorem cutT_ok {t : List Ent} (h : OkT t) (d : Bytes) : OkT (t.filter fun x => !(under x.path d)) := by
  have hm : ∀ z, z ∈ (t.filter fun x => !(under x.path d)) ↔ z ∈ t ∧ under z.path d = false := fun z => by simp [List.mem_filter]
  have hs : SrtT (t.filter fun x => !(under x.path d)) := List.Pairwise.filter _ h.srt
  refine ⟨fun z hz => h.ent z ((hm z).1 hz).1, fun z hz => h.kind z ((hm z).1 hz).1, hs, fun z hz => ?_⟩
  obtain ⟨hz1, hz2⟩ := (hm z).1 hz
  have hp := (entErr_ok (h.ent z hz1)).2.2.1
  have hz' := h.up z hz1
  rw [dirErr_eq] at hz' ⊢
  rcases hz' with k | ⟨x, k, k'⟩
  · exact .inl k
  · obtain ⟨hx, hxp⟩ := getT_some k
    refine .inr ⟨x, ?_, k'⟩
    rw [← hxp]
    refine getT_mem hs ((hm x).2 ⟨hx, ?_⟩)
    cases q : under x.path d with
    | false => rfl
    | true =>
      rw [hxp] at q
      rw [under_up hp q] at hz2
      exact absurd hz2 (by simp)
theorem applyT_ok {t t' : List Ent} (h : OkT t) {e : Ent} (ha : applyT t e = (t', 0)) : OkT t' := by
  unfold applyT at ha
  by_cases h0 : entErr e = 0
  case neg => rw [if_pos h0] at ha; exact absurd (Prod.mk.inj ha).2 h0
  rw [if_neg (by omega)] at ha
  have hk := entErr_ok h0
  by_cases h1 : 3 < e.kind
  · rw [if_pos h1] at ha
    by_cases h2 : getT t e.path = none ∧ e.path ≠ []
    · rw [if_pos h2] at ha; simp at ha
    · rw [if_neg h2] at ha
      by_cases h3 : e.kind = 4
      · rw [if_pos h3] at ha
        rw [← (Prod.mk.inj ha).1]
        exact cutT_ok h _
      · rw [if_neg h3] at ha
        rw [← (Prod.mk.inj ha).1]
        exact h
  · rw [if_neg h1] at ha
    by_cases h2 : dirErr t (upP e.path) = 0
    case neg => rw [if_pos h2] at ha; exact absurd (Prod.mk.inj ha).2 h2
    rw [if_neg (by omega)] at ha
    cases hg : getT t e.path with
    | none =>
      rw [hg] at ha
      change (if 5000 ≤ t.length then (([] : List Ent), (6 : Int)) else (putT t e, 0)) = _ at ha
      by_cases h3 : 5000 ≤ t.length
      · rw [if_pos h3] at ha; simp at ha
      · rw [if_neg h3] at ha
        rw [← (Prod.mk.inj ha).1]
        exact putT_ok h h0 (by omega) h2 fun y hy => by rw [hg] at hy; cases hy
    | some y =>
      rw [hg] at ha
      change (if ((y.kind == 2) != (e.kind == 2)) = true then (([] : List Ent), (8 : Int)) else (putT t e, 0)) = _ at ha
      by_cases h3 : ((y.kind == 2) != (e.kind == 2)) = true
      · rw [if_pos h3] at ha; simp at ha
      · rw [if_neg h3] at ha
        rw [← (Prod.mk.inj ha).1]
        refine putT_ok h h0 (by omega) h2 fun z hz => ?_
        rw [hg] at hz
        cases hz
        have h4 : (y.kind == 2) = (e.kind == 2) := by simpa using h3
        constructor
        · intro k; rw [k] at h4; simpa using h4.symm
        · intro k; rw [k] at h4; simpa using h4
end Go.Proofs.YtcbmdghnlbieeaaGreatDoor
namespace Go.Proofs.YtcbmdghnlbieeaaGreatDoor

def opT (t : List Ent) (e : Ent) : List Ent := if 3 < e.kind then (if e.kind = 4 then t.filter fun x => !(under x.path e.path) else t) else putT t e
structure PreT (t : List Ent) (e : Ent) : Prop where
  ent : entErr e = 0
  there : 3 < e.kind → ¬ (getT t e.path = none ∧ e.path ≠ [])
  up : e.kind ≤ 3 → dirErr t (upP e.path) = 0
  like : e.kind ≤ 3 → ∀ y, getT t e.path = some y → (y.kind == 2) = (e.kind == 2)
  room : e.kind ≤ 3 → getT t e.path = none → t.length < 5000
theorem applyT_iff {t a : List Ent} {e : Ent} : applyT t e = (a, 0) ↔ PreT t e ∧ a = opT t e := by
  unfold applyT opT
  by_cases h0 : entErr e = 0
  case neg =>
    rw [if_pos h0]
    exact ⟨fun h => absurd (Prod.mk.inj h).2 h0, fun h => absurd h.1.ent h0⟩
  rw [if_neg (by omega)]
  by_cases h1 : 3 < e.kind
  · rw [if_pos h1, if_pos h1]
    by_cases h2 : getT t e.path = none ∧ e.path ≠ []
    · rw [if_pos h2]
      exact ⟨fun h => absurd (Prod.mk.inj h).2 (by decide), fun h => absurd h2 (h.1.there h1)⟩
    · rw [if_neg h2]
      have hp : PreT t e := ⟨h0, fun _ => h2, fun k => by omega, fun k => by omega, fun k => by omega⟩
      by_cases h3 : e.kind = 4
      · rw [if_pos h3, if_pos h3]
        exact ⟨fun h => ⟨hp, (Prod.mk.inj h).1.symm⟩, fun h => by rw [h.2]⟩
      · rw [if_neg h3, if_neg h3]
        exact ⟨fun h => ⟨hp, (Prod.mk.inj h).1.symm⟩, fun h => by rw [h.2]⟩
  · rw [if_neg h1, if_neg h1]
    by_cases h2 : dirErr t (upP e.path) = 0
    case neg =>
      rw [if_pos h2]
      exact ⟨fun h => absurd (Prod.mk.inj h).2 h2, fun h => absurd (h.1.up (by omega)) h2⟩
    rw [if_neg (by omega)]
    cases hg : getT t e.path with
    | none =>
      show (if 5000 ≤ t.length then (([] : List Ent), (6 : Int)) else (putT t e, 0)) = (a, 0) ↔ _
      by_cases h3 : 5000 ≤ t.length
      · rw [if_pos h3]
        exact ⟨fun h => absurd (Prod.mk.inj h).2 (by decide), fun h => absurd (h.1.room (by omega) hg) (by omega)⟩
      · rw [if_neg h3]
        exact ⟨fun h => ⟨⟨h0, fun k => absurd k h1, fun _ => h2, fun _ y hy => (by rw [hg] at hy; cases hy), fun _ _ => (by omega)⟩, (Prod.mk.inj h).1.symm⟩, fun h => by rw [h.2]⟩
    | some y =>
      show (if ((y.kind == 2) != (e.kind == 2)) = true then (([] : List Ent), (8 : Int)) else (putT t e, 0)) = (a, 0) ↔ _
      by_cases h3 : ((y.kind == 2) != (e.kind == 2)) = true
      · rw [if_pos h3]
        refine ⟨fun h => absurd (Prod.mk.inj h).2 (by decide), fun h => ?_⟩
        have := h.1.like (by omega) y hg
        rw [this] at h3
        simp at h3
      · rw [if_neg h3]
        exact ⟨fun h => ⟨⟨h0, fun k => absurd k h1, fun _ => h2, fun _ z hz => (by rw [hg] at hz; cases hz; simpa using h3), fun _ hn => (by rw [hg] at hn; cases hn)⟩, (Prod.mk.inj h).1.symm⟩, fun h => by rw [h.2]⟩

theorem opT_srt {t : List Ent} (h : SrtT t) (e : Ent) : SrtT (opT t e) := by
  unfold opT
  by_cases h1 : 3 < e.kind
  · rw [if_pos h1]
    by_cases h2 : e.kind = 4
    · rw [if_pos h2]; exact List.Pairwise.filter _ h
    · rw [if_neg h2]; exact h
  · rw [if_neg h1]; exact putT_srt h e
/-- What an entry lets stand. -/
def keepT (e z : Ent) : Prop := (e.kind ≤ 3 → z.path ≠ e.path) ∧ (e.kind = 4 → under z.path e.path = false)
theorem opT_mem {t : List Ent} (h : SrtT t) (e z : Ent) : z ∈ opT t e ↔ (e.kind ≤ 3 ∧ z = e) ∨ (z ∈ t ∧ keepT e z) := by
  unfold opT keepT
  by_cases h1 : 3 < e.kind
  · rw [if_pos h1]
    by_cases h2 : e.kind = 4
    · rw [if_pos h2, List.mem_filter]
      constructor
      · rintro ⟨a, b⟩; exact .inr ⟨a, fun k => by omega, fun _ => by simpa using b⟩
      · rintro (⟨k, _⟩ | ⟨a, _, b⟩)
        · omega
        · exact ⟨a, by simpa using b h2⟩
    · rw [if_neg h2]
      constructor
      · intro a; exact .inr ⟨a, fun k => by omega, fun k => absurd k h2⟩
      · rintro (⟨k, _⟩ | ⟨a, _⟩)
        · omega
        · exact a
  · rw [if_neg h1, putT_mem h]
    constructor
    · rintro (k | ⟨a, b⟩)
      · exact .inl ⟨by omega, k⟩
      · exact .inr ⟨a, fun _ => b, fun k => by omega⟩
    · rintro (⟨_, k⟩ | ⟨a, b, _⟩)
      · exact .inl k
      · exact .inr ⟨a, b (by omega)⟩
/-- An entry leaves alone what is not under its path. -/
theorem opT_get {t : List Ent} (h : OkT t) {e : Ent} (hp : pathErr e.path = 0) {p : Bytes} (hn : ¬ els e.path <+: els p) : getT (opT t e) p = getT t p := by
  have hk : ∀ z : Ent, z.path = p → keepT e z := fun z hz => by
    refine ⟨fun _ k => hn (by rw [← hz, k]; exact List.prefix_refl _), fun _ => ?_⟩
    cases hu : under z.path e.path with
    | false => rfl
    | true =>
      simp only [under, Bool.and_eq_true] at hu
      rw [List.isPrefixOf_iff_prefix, hz] at hu
      exact absurd hu.2 hn
  have hs := opT_srt h.srt e
  cases hg : getT t p with
  | some x =>
    obtain ⟨hx, rfl⟩ := getT_some hg
    exact getT_mem hs ((opT_mem h.srt e x).2 (.inr ⟨hx, hk x rfl⟩))
  | none =>
    refine getT_none fun z hz k => ?_
    rcases (opT_mem h.srt e z).1 hz with ⟨_, rfl⟩ | ⟨hz, _⟩
    · exact hn (by rw [k]; exact List.prefix_refl _)
    · have := getT_mem h.srt hz
      rw [k, hg] at this
      exact absurd this (by simp)
/-- What f asks stands whether e is applied before it or not. -/
theorem PreT.past {t : List Ent} (h : OkT t) {e f : Ent} (he : pathErr e.path = 0) (hn : ¬ els e.path <+: els f.path) (hl : t.length < 5000 ∨ f.kind > 3) : PreT (opT t e) f → PreT t f := by
  intro p
  have hf := (entErr_ok p.ent).2.2.1
  have g1 := opT_get h he hn
  have g2 : getT (opT t e) (upP f.path) = getT t (upP f.path) := opT_get h he fun k => hn (by
    rw [els_upP hf] at k
    exact k.trans (List.dropLast_prefix _))
  have d : dirErr (opT t e) (upP f.path) = dirErr t (upP f.path) := by unfold dirErr; rw [g2]
  exact ⟨p.ent, fun k => by have := p.there k; rwa [g1] at this, fun k => by have := p.up k; rwa [d] at this, fun k y hy => p.like k y (by rw [g1]; exact hy), fun k _ => by omega⟩
theorem PreT.fore {t : List Ent} (h : OkT t) {e f : Ent} (he : pathErr e.path = 0) (hn : ¬ els e.path <+: els f.path) (hl : (opT t e).length < 5000) : PreT t f → PreT (opT t e) f := by
  intro p
  have hf := (entErr_ok p.ent).2.2.1
  have g1 := opT_get h he hn
  have g2 : getT (opT t e) (upP f.path) = getT t (upP f.path) := opT_get h he fun k => hn (by
    rw [els_upP hf] at k
    exact k.trans (List.dropLast_prefix _))
  have d : dirErr (opT t e) (upP f.path) = dirErr t (upP f.path) := by unfold dirErr; rw [g2]
  exact ⟨p.ent, fun k => by rw [g1]; exact p.there k, fun k => by rw [d]; exact p.up k, fun k y hy => p.like k y (by rw [← g1]; exact hy), fun _ _ => hl⟩
theorem opT_comm {t : List Ent} (h : SrtT t) {e f : Ent} (h1 : keepT e f) (h2 : keepT f e) : opT (opT t e) f = opT (opT t f) e := by
  refine (opT_srt (opT_srt h e) f).ext (opT_srt (opT_srt h f) e) fun z => ?_
  rw [opT_mem (opT_srt h e), opT_mem (opT_srt h f), opT_mem h, opT_mem h]
  constructor
  · rintro (⟨k, rfl⟩ | ⟨⟨k, rfl⟩ | ⟨k, k'⟩, k''⟩)
    · exact .inr ⟨.inl ⟨k, rfl⟩, h1⟩
    · exact .inl ⟨k, rfl⟩
    · exact .inr ⟨.inr ⟨k, k''⟩, k'⟩
  · rintro (⟨k, rfl⟩ | ⟨⟨k, rfl⟩ | ⟨k, k'⟩, k''⟩)
    · exact .inr ⟨.inl ⟨k, rfl⟩, h2⟩
    · exact .inl ⟨k, rfl⟩
    · exact .inr ⟨.inr ⟨k, k''⟩, k'⟩
theorem putT_len (t : List Ent) (e : Ent) : (putT t e).length ≤ t.length + 1 := by
  have : ∀ (l out : List Ent) (d : Bool), (putTGo e d out l).length ≤ out.length + l.length + 1 := by
    intro l
    induction l with
    | nil => intro out d; cases d <;> simp [putTGo]
    | cons y l ih =>
      intro out d
      rw [putTGo]
      cases hc : (!d && !(ltE y e))
      · refine Nat.le_trans (ih _ _) ?_
        cases h : (y.path == e.path) <;> simp <;> omega
      · have hd : (d || !(ltE y e)) = true := by
          simp only [Bool.and_eq_true] at hc
          rw [hc.2]; simp
        rw [hd, putTGo_done]
        have := List.length_filter_le (fun y : Ent => !(y.path == e.path)) l
        cases h : (y.path == e.path) <;> simp <;> omega
  simpa [putT] using this t [] false
theorem opT_len (t : List Ent) (e : Ent) : (opT t e).length ≤ t.length + 1 := by
  unfold opT
  by_cases h1 : 3 < e.kind
  · rw [if_pos h1]
    by_cases h2 : e.kind = 4
    · rw [if_pos h2]; exact Nat.le_trans (List.length_filter_le _ _) (Nat.le_succ _)
    · rw [if_neg h2]; exact Nat.le_succ _
  · rw [if_neg h1]; exact putT_len t e
/-- Unrelated entries commute. -/
theorem apply_comm {t a b : List Ent} (h : OkT t) (hl : t.length ≤ 60) {e f : Ent} (u1 : under e.path f.path = false) (u2 : under f.path e.path = false) (h1 : applyT t e = (a, 0)) (h2 : applyT a f = (b, 0)) :
    ∃ c, applyT t f = (c, 0) ∧ applyT c e = (b, 0) := by
  obtain ⟨p1, rfl⟩ := applyT_iff.1 h1
  obtain ⟨p2, rfl⟩ := applyT_iff.1 h2
  have he := (entErr_ok p1.ent).2.2.1
  have hf := (entErr_ok p2.ent).2.2.1
  have n1 : ¬ els e.path <+: els f.path := fun k => by
    rw [under, he, hf, List.isPrefixOf_iff_prefix.2 k] at u2; simp at u2
  have n2 : ¬ els f.path <+: els e.path := fun k => by
    rw [under, he, hf, List.isPrefixOf_iff_prefix.2 k] at u1; simp at u1
  have hne : f.path ≠ e.path := fun k => n1 (by rw [k]; exact List.prefix_refl _)
  have q2 := PreT.past h he n1 (.inl (by omega)) p2
  have q1 := PreT.fore h hf n2 (by have := opT_len t f; omega) p1
  exact ⟨_, applyT_iff.2 ⟨q2, rfl⟩, applyT_iff.2 ⟨q1, opT_comm h.srt ⟨fun _ => hne, fun _ => u2⟩ ⟨fun _ => hne.symm, fun _ => u1⟩⟩⟩
end Go.Proofs.YtcbmdghnlbieeaaGreatDoor
namespace Go.Proofs.YtcbmdghnlbieeaaGreatDoor

/-- A binary search's own loop. -/
def bs (p : Nat → Bool) (lo hi : Nat) : Nat :=
  if h : lo < hi then (if p ((lo + hi) / 2) then bs p lo ((lo + hi) / 2) else bs p ((lo + hi) / 2 + 1) hi) else lo
termination_by hi - lo
decreasing_by all_goals omega

theorem bs_le (p : Nat → Bool) (lo hi : Nat) (h : lo ≤ hi) : lo ≤ bs p lo hi ∧ bs p lo hi ≤ hi := by
  induction lo, hi using bs.induct p with
  | case1 lo hi hlt hp ih => rw [bs, dif_pos hlt, if_pos hp]; have := ih (by omega); omega
  | case2 lo hi hlt hp ih => rw [bs, dif_pos hlt, if_neg hp]; have := ih (by omega); omega
  | case3 lo hi hlt => rw [bs, dif_neg hlt]; omega

theorem bs_spec (p : Nat → Bool) (lo hi : Nat) (h : lo ≤ hi) : (lo < bs p lo hi → p (bs p lo hi - 1) = false) ∧ (bs p lo hi < hi → p (bs p lo hi) = true) := by
  induction lo, hi using bs.induct p with
  | case1 lo hi hlt hp ih =>
    rw [bs, dif_pos hlt, if_pos hp]
    have h1 := ih (by omega)
    refine ⟨h1.1, fun h2 => ?_⟩
    by_cases h3 : bs p lo ((lo + hi) / 2) < (lo + hi) / 2
    · exact h1.2 h3
    · have := bs_le p lo ((lo + hi) / 2) (by omega)
      rw [show bs p lo ((lo + hi) / 2) = (lo + hi) / 2 by omega]; exact hp
  | case2 lo hi hlt hp ih =>
    rw [bs, dif_pos hlt, if_neg hp]
    have h1 := ih (by omega)
    refine ⟨fun h2 => ?_, h1.2⟩
    by_cases h3 : (lo + hi) / 2 + 1 < bs p ((lo + hi) / 2 + 1) hi
    · exact h1.1 h3
    · have := bs_le p ((lo + hi) / 2 + 1) hi (by omega)
      rw [show bs p ((lo + hi) / 2 + 1) hi - 1 = (lo + hi) / 2 by omega]; simpa using hp
  | case3 lo hi hlt => rw [bs, dif_neg hlt]; exact ⟨fun h => by omega, fun h => by omega⟩

/-- Put in the stead of the entry of its path. -/
theorem putT_set {t : List Ent} (h : SrtT t) (e : Ent) {i : Nat} (hi : i < t.length) (hp : t[i].path = e.path) : putT t e = t.set i e := by
  have hle : ∀ (a : Ent), ltE a e = ltE a t[i] := fun a => by unfold ltE; rw [hp]
  have hle2 : ∀ (a : Ent), ltE e a = ltE t[i] a := fun a => by unfold ltE; rw [hp]
  have hpw := List.pairwise_iff_getElem.1 h
  have hsrt : SrtT (t.set i e) := by
    refine List.pairwise_iff_getElem.2 fun a b ha hb hab => ?_
    rw [List.length_set] at ha hb
    have h0 := hpw a b ha hb hab
    rw [List.getElem_set, List.getElem_set]
    by_cases h1 : i = a
    · subst h1
      rw [if_pos rfl, if_neg (by omega)]
      show ltE e t[b] = true
      rw [hle2]; exact h0
    · rw [if_neg h1]
      by_cases h2 : i = b
      · subst h2
        rw [if_pos rfl]
        show ltE t[a] e = true
        rw [hle]; exact h0
      · rw [if_neg h2]; exact h0
  refine SrtT.ext (putT_srt h e) hsrt fun z => ?_
  rw [putT_mem h]
  constructor
  · rintro (rfl | ⟨hz, hne⟩)
    · exact List.mem_set hi _
    · obtain ⟨j, hj, rfl⟩ := List.getElem_of_mem hz
      have hij : i ≠ j := fun e2 => hne (by subst e2; exact hp)
      have : (t.set i e)[j]'(by rw [List.length_set]; exact hj) = t[j] := List.getElem_set_ne hij _
      rw [← this]
      exact List.getElem_mem _
  · intro hz
    obtain ⟨j, hj, rfl⟩ := List.getElem_of_mem hz
    rw [List.length_set] at hj
    rw [List.getElem_set]
    by_cases hij : i = j
    · rw [if_pos hij]; exact .inl rfl
    · rw [if_neg hij]
      refine .inr ⟨List.getElem_mem _, fun he => ?_⟩
      have hne : t[j].path ≠ t[i].path := by
        rcases Nat.lt_or_gt_of_ne hij with h1 | h1
        · exact (ltE_ne (hpw i j hi hj h1)).symm
        · exact ltE_ne (hpw j i hj hi h1)
      exact hne (he.trans hp.symm)

/-- Put between what is less and what is greater. -/
theorem putT_ins {t : List Ent} (h : SrtT t) (e : Ent) {i : Nat} (hi : i ≤ t.length) (hl : ∀ k (hk : k < t.length), k < i → ltE t[k] e = true) (hg : ∀ k (hk : k < t.length), i ≤ k → ltE e t[k] = true) : putT t e = t.take i ++ e :: t.drop i := by
  have hpw := List.pairwise_iff_getElem.1 h
  have hsrt : SrtT (t.take i ++ e :: t.drop i) := by
    refine List.pairwise_append.2 ⟨List.Pairwise.sublist (List.take_sublist _ _) h, List.pairwise_cons.2 ⟨fun b hb => ?_, List.Pairwise.sublist (List.drop_sublist _ _) h⟩, fun a ha b hb => ?_⟩
    · obtain ⟨j, hj, rfl⟩ := List.getElem_of_mem hb
      rw [List.getElem_drop]
      exact hg _ (by simp at hj; omega) (by omega)
    · obtain ⟨j, hj, rfl⟩ := List.getElem_of_mem ha
      have hj2 : j < i ∧ j < t.length := by simp at hj; omega
      rw [List.getElem_take]
      rcases List.mem_cons.1 hb with rfl | hb
      · exact hl j hj2.2 hj2.1
      · obtain ⟨q, hq, rfl⟩ := List.getElem_of_mem hb
        rw [List.getElem_drop]
        exact hpw j (i + q) hj2.2 (by simp at hq; omega) (by omega)
  refine SrtT.ext (putT_srt h e) hsrt fun z => ?_
  rw [putT_mem h, List.mem_append, List.mem_cons]
  constructor
  · rintro (rfl | ⟨hz, hne⟩)
    · exact .inr (.inl rfl)
    · rw [← List.take_append_drop i t, List.mem_append] at hz
      rcases hz with hz | hz
      · exact .inl hz
      · exact .inr (.inr hz)
  · rintro (hz | rfl | hz)
    · obtain ⟨j, hj, rfl⟩ := List.getElem_of_mem hz
      have hj2 : j < i ∧ j < t.length := by simp at hj; omega
      rw [List.getElem_take]
      exact .inr ⟨List.getElem_mem _, ltE_ne (hl j hj2.2 hj2.1)⟩
    · exact .inl rfl
    · obtain ⟨j, hj, rfl⟩ := List.getElem_of_mem hz
      rw [List.getElem_drop]
      exact .inr ⟨List.getElem_mem _, (ltE_ne (hg (i + j) (by simp at hj; omega) (by omega))).symm⟩

/-- What the search asks of a place. -/
def notLess (t : List Ent) (p : Bytes) (i : Nat) : Bool := match t[i]? with | some x => !(ltP (els x.path) (els p)) | none => true
theorem putT_bs {t : List Ent} (h : SrtT t) (e : Ent) (hn : ∀ x ∈ t, x.path ≠ e.path) : putT t e = t.take (bs (notLess t e.path) 0 t.length) ++ e :: t.drop (bs (notLess t e.path) 0 t.length) := by
  have hle := bs_le (notLess t e.path) 0 t.length (Nat.zero_le _)
  have hsp := bs_spec (notLess t e.path) 0 t.length (Nat.zero_le _)
  generalize bs (notLess t e.path) 0 t.length = i at hle hsp
  have hpw := List.pairwise_iff_getElem.1 h
  refine putT_ins h e hle.2 (fun k hk hki => ?_) (fun k hk hik => ?_)
  · have h1 := hsp.1 (by omega)
    rw [notLess, List.getElem?_eq_getElem (by omega)] at h1
    have h2 : ltE (t[i - 1]'(by omega)) e = true := by simpa using h1
    by_cases hk2 : k = i - 1
    · subst hk2; exact h2
    · exact ltP_trans (hpw k (i - 1) hk (by omega) (by omega)) h2
  · have h1 := hsp.2 (by omega)
    rw [notLess, List.getElem?_eq_getElem (by omega)] at h1
    have h2 : ltE (t[i]'(by omega)) e = false := by simpa using h1
    have h3 : ltE e (t[i]'(by omega)) = true := by
      rcases ltE_total e (t[i]'(by omega)) with h3 | h3 | h3
      · exact h3
      · exact absurd h3.symm (hn _ (List.getElem_mem _))
      · rw [h2] at h3; exact absurd h3 (by simp)
    by_cases hk2 : k = i
    · subst hk2; exact h3
    · exact ltP_trans h3 (hpw i k (by omega) hk (by omega))
end Go.Proofs.YtcbmdghnlbieeaaGreatDoor
namespace Go.Proofs.YtcbmdghnlbieeaaGreatDoor

def meaning (x y : Ent) : Bool := decide (x.kind = y.kind) && decide (x.attrs = y.attrs) && decide (x.target = y.target) && decide (x.size = y.size) && decide (x.digest = y.digest)
/-- Two trees, gone through side by side. -/
def diffM : List Ent → List Ent → List Bytes
  | [], [] => []
  | x :: a, [] => x.path :: diffM a []
  | [], y :: b => y.path :: diffM [] b
  | x :: a, y :: b => if ltE x y then x.path :: diffM a (y :: b) else if ltE y x then y.path :: diffM (x :: a) b else if meaning x y then diffM a b else x.path :: diffM a b
termination_by a b => a.length + b.length

def SrtP (l : List Bytes) : Prop := l.Pairwise fun p q => ltP (els p) (els q) = true
/-- A path at which two trees differ. -/
def DiffAt (a b : List Ent) (p : Bytes) : Prop := (∃ x ∈ a, x.path = p ∧ ∀ y ∈ b, y.path = p → meaning x y = false) ∨ (∃ y ∈ b, y.path = p ∧ ∀ x ∈ a, x.path ≠ p)

theorem SrtP.ext : ∀ {A B : List Bytes}, SrtP A → SrtP B → (∀ x, x ∈ A ↔ x ∈ B) → A = B
  | [], [], _, _, _ => rfl
  | [], b :: B, _, _, h => absurd ((h b).2 (List.mem_cons_self ..)) (by simp)
  | a :: A, [], _, _, h => absurd ((h a).1 (List.mem_cons_self ..)) (by simp)
  | a :: A, b :: B, hA, hB, h => by
    obtain ⟨a1, a2⟩ := List.pairwise_cons.1 hA
    obtain ⟨b1, b2⟩ := List.pairwise_cons.1 hB
    have e : a = b := by
      rcases List.mem_cons.1 ((h a).1 (List.mem_cons_self ..)) with e | hab
      · exact e
      · rcases List.mem_cons.1 ((h b).2 (List.mem_cons_self ..)) with e | hba
        · exact e.symm
        · have k := ltP_asymm (a1 b hba)
          rw [b1 a hab] at k
          exact absurd k (by simp)
    subst e
    rw [SrtP.ext a2 b2 fun x => ?_]
    have hx := h x
    rw [List.mem_cons, List.mem_cons] at hx
    constructor
    · intro hm
      rcases hx.1 (.inr hm) with e | hm'
      · subst e; exact absurd rfl (ltP_ne (a1 x hm))
      · exact hm'
    · intro hm
      rcases hx.2 (.inr hm) with e | hm'
      · subst e; exact absurd rfl (ltP_ne (b1 x hm))
      · exact hm'

theorem diffM_spec : ∀ (a b : List Ent), SrtT a → SrtT b → SrtP (diffM a b) ∧ ∀ p, p ∈ diffM a b ↔ DiffAt a b p
  | [], [], _, _ => by
    rw [diffM]
    exact ⟨List.Pairwise.nil, fun p => by simp [DiffAt]⟩
  | x :: a, [], ha, hb => by
    obtain ⟨a1, a2⟩ := List.pairwise_cons.1 ha
    obtain ⟨i1, i2⟩ := diffM_spec a [] a2 hb
    rw [diffM]
    refine ⟨List.pairwise_cons.2 ⟨fun p hp => ?_, i1⟩, fun p => ?_⟩
    · rcases (i2 p).1 hp with ⟨z, hz, rfl, _⟩ | ⟨z, hz, _⟩
      · exact a1 z hz
      · cases hz
    · rw [List.mem_cons, i2]
      constructor
      · rintro (rfl | ⟨z, hz, k, _⟩ | ⟨z, hz, _⟩)
        · exact .inl ⟨x, List.mem_cons_self .., rfl, fun y hy => absurd hy (by simp)⟩
        · exact .inl ⟨z, List.mem_cons_of_mem _ hz, k, fun y hy => absurd hy (by simp)⟩
        · cases hz
      · rintro (⟨z, hz, k, k'⟩ | ⟨z, hz, _⟩)
        · rcases List.mem_cons.1 hz with rfl | hz
          · exact .inl k.symm
          · exact .inr (.inl ⟨z, hz, k, k'⟩)
        · cases hz
  | [], y :: b, ha, hb => by
    obtain ⟨b1, b2⟩ := List.pairwise_cons.1 hb
    obtain ⟨i1, i2⟩ := diffM_spec [] b ha b2
    rw [diffM]
    refine ⟨List.pairwise_cons.2 ⟨fun p hp => ?_, i1⟩, fun p => ?_⟩
    · rcases (i2 p).1 hp with ⟨z, hz, _⟩ | ⟨z, hz, rfl, _⟩
      · cases hz
      · exact b1 z hz
    · rw [List.mem_cons, i2]
      constructor
      · rintro (rfl | ⟨z, hz, _⟩ | ⟨z, hz, k, _⟩)
        · exact .inr ⟨y, List.mem_cons_self .., rfl, fun x hx => absurd hx (by simp)⟩
        · cases hz
        · exact .inr ⟨z, List.mem_cons_of_mem _ hz, k, fun x hx => absurd hx (by simp)⟩
      · rintro (⟨z, hz, _⟩ | ⟨z, hz, k, k'⟩)
        · cases hz
        · rcases List.mem_cons.1 hz with rfl | hz
          · exact .inl k.symm
          · exact .inr (.inr ⟨z, hz, k, k'⟩)
  | x :: a, y :: b, ha, hb => by
    obtain ⟨a1, a2⟩ := List.pairwise_cons.1 ha
    obtain ⟨b1, b2⟩ := List.pairwise_cons.1 hb
    rw [diffM]
    by_cases h1 : ltE x y = true
    · rw [if_pos h1]
      obtain ⟨i1, i2⟩ := diffM_spec a (y :: b) a2 hb
      have hxb : ∀ z ∈ y :: b, ltE x z = true := fun z hz => by
        rcases List.mem_cons.1 hz with rfl | hz
        · exact h1
        · exact ltP_trans h1 (b1 z hz)
      refine ⟨List.pairwise_cons.2 ⟨fun p hp => ?_, i1⟩, fun p => ?_⟩
      · rcases (i2 p).1 hp with ⟨z, hz, rfl, _⟩ | ⟨z, hz, rfl, _⟩
        · exact a1 z hz
        · exact hxb z hz
      · rw [List.mem_cons, i2]
        constructor
        · rintro (rfl | ⟨z, hz, k, k'⟩ | ⟨z, hz, rfl, k'⟩)
          · exact .inl ⟨x, List.mem_cons_self .., rfl, fun z hz k => absurd k.symm (ltE_ne (hxb z hz))⟩
          · exact .inl ⟨z, List.mem_cons_of_mem _ hz, k, k'⟩
          · refine .inr ⟨z, hz, rfl, fun u hu => ?_⟩
            rcases List.mem_cons.1 hu with rfl | hu
            · exact ltE_ne (hxb z hz)
            · exact k' u hu
        · rintro (⟨z, hz, k, k'⟩ | ⟨z, hz, rfl, k'⟩)
          · rcases List.mem_cons.1 hz with rfl | hz
            · exact .inl k.symm
            · exact .inr (.inl ⟨z, hz, k, k'⟩)
          · exact .inr (.inr ⟨z, hz, rfl, fun u hu => k' u (List.mem_cons_of_mem _ hu)⟩)
    · rw [if_neg h1]
      by_cases h2 : ltE y x = true
      · rw [if_pos h2]
        obtain ⟨i1, i2⟩ := diffM_spec (x :: a) b ha b2
        have hya : ∀ z ∈ x :: a, ltE y z = true := fun z hz => by
          rcases List.mem_cons.1 hz with rfl | hz
          · exact h2
          · exact ltP_trans h2 (a1 z hz)
        refine ⟨List.pairwise_cons.2 ⟨fun p hp => ?_, i1⟩, fun p => ?_⟩
        · rcases (i2 p).1 hp with ⟨z, hz, rfl, _⟩ | ⟨z, hz, rfl, _⟩
          · exact hya z hz
          · exact b1 z hz
        · rw [List.mem_cons, i2]
          constructor
          · rintro (rfl | ⟨z, hz, rfl, k'⟩ | ⟨z, hz, k, k'⟩)
            · exact .inr ⟨y, List.mem_cons_self .., rfl, fun z hz k => absurd k.symm (ltE_ne (hya z hz))⟩
            · refine .inl ⟨z, hz, rfl, fun u hu k => ?_⟩
              rcases List.mem_cons.1 hu with rfl | hu
              · exact absurd k (ltE_ne (hya z hz))
              · exact k' u hu k
            · exact .inr ⟨z, List.mem_cons_of_mem _ hz, k, k'⟩
          · rintro (⟨z, hz, rfl, k'⟩ | ⟨z, hz, k, k'⟩)
            · exact .inr (.inl ⟨z, hz, rfl, fun u hu => k' u (List.mem_cons_of_mem _ hu)⟩)
            · rcases List.mem_cons.1 hz with rfl | hz
              · exact .inl k.symm
              · exact .inr (.inr ⟨z, hz, k, k'⟩)
      · rw [if_neg h2]
        have hxy : x.path = y.path := by
          rcases ltE_total x y with h | h | h
          · exact absurd h h1
          · exact h
          · exact absurd h h2
        obtain ⟨i1, i2⟩ := diffM_spec a b a2 b2
        have hxa : ∀ z ∈ a, x.path ≠ z.path := fun z hz => ltE_ne (a1 z hz)
        have hyb : ∀ z ∈ b, x.path ≠ z.path := fun z hz => by rw [hxy]; exact ltE_ne (b1 z hz)
        have hrest : ∀ p, p ≠ x.path → (DiffAt (x :: a) (y :: b) p ↔ DiffAt a b p) := by
          intro p hp
          have hp' : y.path ≠ p := fun k => hp (by rw [hxy, k])
          constructor
          · rintro (⟨z, hz, k, k'⟩ | ⟨z, hz, k, k'⟩)
            · rcases List.mem_cons.1 hz with rfl | hz
              · exact absurd k.symm hp
              · exact .inl ⟨z, hz, k, fun u hu => k' u (List.mem_cons_of_mem _ hu)⟩
            · rcases List.mem_cons.1 hz with rfl | hz
              · exact absurd k hp'
              · exact .inr ⟨z, hz, k, fun u hu => k' u (List.mem_cons_of_mem _ hu)⟩
          · rintro (⟨z, hz, k, k'⟩ | ⟨z, hz, k, k'⟩)
            · refine .inl ⟨z, List.mem_cons_of_mem _ hz, k, fun u hu q => ?_⟩
              rcases List.mem_cons.1 hu with rfl | hu
              · exact absurd q hp'
              · exact k' u hu q
            · refine .inr ⟨z, List.mem_cons_of_mem _ hz, k, fun u hu q => ?_⟩
              rcases List.mem_cons.1 hu with rfl | hu
              · exact hp q.symm
              · exact k' u hu q
        have hno : ¬ DiffAt a b x.path := by
          rintro (⟨z, hz, k, _⟩ | ⟨z, hz, k, _⟩)
          · exact hxa z hz k.symm
          · exact hyb z hz k.symm
        have hat : DiffAt (x :: a) (y :: b) x.path ↔ meaning x y = false := by
          constructor
          · rintro (⟨z, hz, k, k'⟩ | ⟨z, hz, k, k'⟩)
            · rcases List.mem_cons.1 hz with rfl | hz
              · exact k' y (List.mem_cons_self ..) hxy.symm
              · exact absurd k.symm (hxa z hz)
            · exact absurd rfl (k' x (List.mem_cons_self ..))
          · intro hm
            refine .inl ⟨x, List.mem_cons_self .., rfl, fun u hu q => ?_⟩
            rcases List.mem_cons.1 hu with rfl | hu
            · exact hm
            · exact absurd q.symm (hyb u hu)
        by_cases hm : meaning x y = true
        · rw [if_pos hm]
          refine ⟨i1, fun p => ?_⟩
          rw [i2]
          by_cases hp : p = x.path
          · subst hp
            rw [hat, hm]
            exact ⟨fun k => absurd k hno, fun k => absurd k (by simp)⟩
          · exact (hrest p hp).symm
        · rw [if_neg hm]
          refine ⟨List.pairwise_cons.2 ⟨fun p hp => ?_, i1⟩, fun p => ?_⟩
          · rcases (i2 p).1 hp with ⟨z, hz, rfl, _⟩ | ⟨z, hz, rfl, _⟩
            · exact a1 z hz
            · show ltP (els x.path) _ = true
              rw [hxy]; exact b1 z hz
          · rw [List.mem_cons, i2]
            by_cases hp : p = x.path
            · subst hp
              rw [hat]
              exact ⟨fun _ => by simpa using hm, fun _ => .inl rfl⟩
            · rw [hrest p hp]
              exact ⟨fun k => k.resolve_left hp, .inr⟩
termination_by a b => a.length + b.length
end Go.Proofs.YtcbmdghnlbieeaaGreatDoor
namespace Go.Proofs.YtcbmdghnlbieeaaGreatDoor

/-- What Diff gathers before it sorts. -/
def diffU (a b : List Ent) : List Bytes := (a.filter fun x => match getT b x.path with | none => true | some y => !(meaning x y)).map Ent.path ++ (b.filter fun y => (getT a y.path).isNone).map Ent.path
theorem diffU_mem {a b : List Ent} (hb : SrtT b) (p : Bytes) (ha : SrtT a) : p ∈ diffU a b ↔ DiffAt a b p := by
  unfold diffU DiffAt
  rw [List.mem_append, List.mem_map, List.mem_map]
  constructor
  · rintro (⟨x, hx, rfl⟩ | ⟨y, hy, rfl⟩)
    · rw [List.mem_filter] at hx
      refine .inl ⟨x, hx.1, rfl, fun y hy k => ?_⟩
      have := hx.2
      rw [← k, getT_mem hb hy] at this
      simpa using this
    · rw [List.mem_filter] at hy
      refine .inr ⟨y, hy.1, rfl, fun x hx k => ?_⟩
      have := hy.2
      rw [← k, getT_mem ha hx] at this
      simp at this
  · rintro (⟨x, hx, rfl, h⟩ | ⟨y, hy, rfl, h⟩)
    · refine .inl ⟨x, List.mem_filter.2 ⟨hx, ?_⟩, rfl⟩
      cases hg : getT b x.path with
      | none => rfl
      | some y =>
        obtain ⟨hy, k⟩ := getT_some hg
        simpa using h y hy k
    · refine .inr ⟨y, List.mem_filter.2 ⟨hy, ?_⟩, rfl⟩
      rw [getT_none h]; rfl
theorem srt_paths {t : List Ent} (h : SrtT t) : (t.map Ent.path).Pairwise fun p q => p ≠ q := List.pairwise_map.2 (h.imp fun k => ltE_ne k)
theorem diffU_ne {a b : List Ent} (ha : SrtT a) (hb : SrtT b) : (diffU a b).Pairwise fun p q => p ≠ q := by
  unfold diffU
  rw [List.pairwise_append]
  refine ⟨srt_paths (List.Pairwise.filter _ ha), srt_paths (List.Pairwise.filter _ hb), fun p hp q hq k => ?_⟩
  obtain ⟨x, hx, rfl⟩ := List.mem_map.1 hp
  obtain ⟨y, hy, rfl⟩ := List.mem_map.1 hq
  rw [List.mem_filter] at hx hy
  have := hy.2
  rw [← k, getT_mem ha hx.1] at this
  simp at this
theorem cmpP_lt (p q : Bytes) : decide (cmpP p q < 0) = ltP (els p) (els q) := by
  unfold cmpP
  cases h : ltP (els p) (els q)
  · cases k : ltP (els q) (els p) <;> simp
  · simp
theorem cmpP_ge (p q : Bytes) : (0 ≤ cmpP p q) ↔ ltP (els p) (els q) = false := by
  have h := cmpP_lt p q
  cases k : ltP (els p) (els q) with
  | false => rw [k] at h; have := of_decide_eq_false h; exact ⟨fun _ => rfl, fun _ => by omega⟩
  | true => rw [k] at h; have := of_decide_eq_true h; exact ⟨fun q => by omega, fun q => absurd q (by simp)⟩
theorem cmpP_le (p q : Bytes) : (cmpP p q ≤ 0) ↔ ltP (els q) (els p) = false := by
  unfold cmpP
  cases h : ltP (els p) (els q)
  · cases k : ltP (els q) (els p) <;> simp
  · simp [ltP_asymm h]
/-- Sorted in whatever way, they are what the reference gathers. -/
theorem diffU_sorted {a b : List Ent} (ha : SrtT a) (hb : SrtT b) {l : List Bytes} (hp : l.Perm (diffU a b)) (hs : l.Pairwise fun p q => ltP (els q) (els p) = false) : l = diffM a b := by
  have hne := (hp.pairwise_iff (fun {x y} h => Ne.symm h)).2 (diffU_ne ha hb)
  obtain ⟨h1, h2⟩ := diffM_spec a b ha hb
  have hl : SrtP l := (hne.and hs).imp fun {p q} h => by
    rcases ltP_total (els p) (els q) with k | k | k
    · exact k
    · exact absurd (els_inj k) h.1
    · rw [h.2] at k; exact absurd k (by simp)
  exact hl.ext h1 fun p => by rw [hp.mem_iff, diffU_mem hb p ha, h2]
end Go.Proofs.YtcbmdghnlbieeaaGreatDoor
namespace Go.Proofs.YtcbmdghnlbieeaaGreatDoor

/-- The entries right under a path. -/
def listT (t : List Ent) (p : Bytes) : List Ent := t.filter fun x => decide (pathErr x.path = 0) && decide (x.path ≠ []) && (upP x.path == p)
def lastP (p : Bytes) : Bytes := (els p).getLastD []
section
variable (H net : Bytes → Bytes) (num : Int → Bytes) (nm : Int → Bytes)
def frontP (x : Ent) : Bytes := net (nm x.kind) ++ (num x.attrs.length ++ x.attrs.flatMap fun a => net a.k ++ net a.v)
/-- The digest of an entry; n bounds the depth. -/
def merkF : Nat → List Ent → Ent → Bytes
  | 0, _, _ => []
  | n + 1, t, x => if x.kind = 2 then H (frontP net num nm x ++ num (listT t x.path).length ++ (listT t x.path).flatMap fun y => net (lastP y.path) ++ net (merkF n t y))
    else H (frontP net num nm x ++ net x.target ++ num x.size ++ net x.digest)

theorem listT_mem {t : List Ent} {p : Bytes} {z : Ent} : z ∈ listT t p ↔ z ∈ t ∧ pathErr z.path = 0 ∧ z.path ≠ [] ∧ upP z.path = p := by
  simp [listT, List.mem_filter, and_assoc]
theorem listT_prefix {t : List Ent} {p : Bytes} {z : Ent} (h : z ∈ listT t p) : els p <+: els z.path := by
  obtain ⟨_, h1, _, rfl⟩ := listT_mem.1 h
  rw [els_upP h1]
  exact List.dropLast_prefix _
/-- Applying an entry leaves the digests of all paths alone that are neither above nor under its path. -/
theorem merk_local {t : List Ent} (h : OkT t) {e : Ent} : ∀ (n : Nat) (y : Ent), ¬ els e.path <+: els y.path → ¬ els y.path <+: els e.path → merkF H net num nm n (opT t e) y = merkF H net num nm n t y := by
  intro n
  induction n with
  | zero => intro y _ _; rfl
  | succ n ih =>
    intro y n1 n2
    have hk : ∀ z : Ent, els y.path <+: els z.path → ¬ els e.path <+: els z.path := fun z hz k => by
      rcases List.prefix_or_prefix_of_prefix hz k with q | q
      · exact n2 q
      · exact n1 q
    have hl : listT (opT t e) y.path = listT t y.path := by
      refine SrtT.ext (List.Pairwise.filter _ (opT_srt h.srt e)) (List.Pairwise.filter _ h.srt) fun z => ?_
      show z ∈ listT (opT t e) y.path ↔ z ∈ listT t y.path
      constructor
      · intro hz
        have hp := hk z (listT_prefix hz)
        obtain ⟨z1, z2, z3, z4⟩ := listT_mem.1 hz
        rcases (opT_mem h.srt e z).1 z1 with ⟨_, rfl⟩ | ⟨z1, _⟩
        · exact absurd (List.prefix_refl _) hp
        · exact listT_mem.2 ⟨z1, z2, z3, z4⟩
      · intro hz
        have hp := hk z (listT_prefix hz)
        obtain ⟨z1, z2, z3, z4⟩ := listT_mem.1 hz
        refine listT_mem.2 ⟨(opT_mem h.srt e z).2 (.inr ⟨z1, fun _ k => hp (by rw [k]; exact List.prefix_refl _), fun _ => ?_⟩), z2, z3, z4⟩
        cases hu : under z.path e.path with
        | false => rfl
        | true =>
          simp only [under, Bool.and_eq_true] at hu
          exact absurd (List.isPrefixOf_iff_prefix.1 hu.2) hp
    rw [merkF, merkF, hl]
    have hc : ((listT t y.path).flatMap fun z => net (lastP z.path) ++ net (merkF H net num nm n (opT t e) z)) = ((listT t y.path).flatMap fun z => net (lastP z.path) ++ net (merkF H net num nm n t z)) := by
      rw [List.flatMap_def, List.flatMap_def]
      congr 1
      refine List.map_congr_left fun z hz => ?_
      have hp := listT_prefix hz
      rw [ih z (hk z hp) fun k => n2 (hp.trans k)]
    rw [hc]
end
end Go.Proofs.YtcbmdghnlbieeaaGreatDoor
namespace Go.Proofs.YtcbmdghnlbieeaaGreatDoor

def SameE (x y : Ent) : Prop := x.path = y.path ∧ meaning x y = true
def All2 : List Ent → List Ent → Prop
  | [], [] => True
  | x :: a, y :: b => SameE x y ∧ All2 a b
  | _, _ => False
theorem diff_all2 : ∀ (a b : List Ent), diffM a b = [] → All2 a b
  | [], [], _ => trivial
  | x :: a, [], h => by rw [diffM] at h; cases h
  | [], y :: b, h => by rw [diffM] at h; cases h
  | x :: a, y :: b, h => by
    rw [diffM] at h
    by_cases h1 : ltE x y = true
    · rw [if_pos h1] at h; cases h
    · rw [if_neg h1] at h
      by_cases h2 : ltE y x = true
      · rw [if_pos h2] at h; cases h
      · rw [if_neg h2] at h
        by_cases h3 : meaning x y = true
        · rw [if_pos h3] at h
          refine ⟨⟨?_, h3⟩, diff_all2 a b h⟩
          rcases ltE_total x y with k | k | k
          · exact absurd k h1
          · exact k
          · exact absurd k h2
        · rw [if_neg h3] at h; cases h
theorem All2.length : ∀ {a b : List Ent}, All2 a b → a.length = b.length
  | [], [], _ => rfl
  | _ :: _, [], h => h.elim
  | [], _ :: _, h => h.elim
  | _ :: _, _ :: _, h => by rw [List.length_cons, List.length_cons, All2.length h.2]
theorem All2.list (p : Bytes) : ∀ {a b : List Ent}, All2 a b → All2 (listT a p) (listT b p)
  | [], [], _ => trivial
  | _ :: _, [], h => h.elim
  | [], _ :: _, h => h.elim
  | x :: a, y :: b, h => by
    have ih := All2.list p h.2
    unfold listT at ih ⊢
    rw [List.filter_cons, List.filter_cons, h.1.1]
    split
    · exact ⟨h.1, ih⟩
    · exact ih
theorem All2.flat {f g : Ent → Bytes} : ∀ {a b : List Ent}, All2 a b → (∀ x y, SameE x y → f x = g y) → a.flatMap f = b.flatMap g
  | [], [], _, _ => rfl
  | _ :: _, [], h, _ => h.elim
  | [], _ :: _, h, _ => h.elim
  | x :: a, y :: b, h, k => by rw [List.flatMap_cons, List.flatMap_cons, k x y h.1, All2.flat h.2 k]
theorem merk_same (H net : Bytes → Bytes) (num nm : Int → Bytes) {a b : List Ent} (h : All2 a b) : ∀ (n : Nat) (x y : Ent), SameE x y → merkF H net num nm n a x = merkF H net num nm n b y := by
  intro n
  induction n with
  | zero => intro x y _; rfl
  | succ n ih =>
    intro x y hxy
    obtain ⟨hp, hm⟩ := hxy
    simp only [meaning, Bool.and_eq_true, decide_eq_true_eq] at hm
    obtain ⟨⟨⟨⟨m1, m2⟩, m3⟩, m4⟩, m5⟩ := hm
    have hl := h.list x.path
    have hf : frontP net num nm x = frontP net num nm y := by rw [frontP, frontP, m1, m2]
    rw [merkF, merkF, hf, m1, m3, m4, m5, ← hp, hl.length, hl.flat fun u v huv => by rw [ih u v huv, huv.1]]
end Go.Proofs.YtcbmdghnlbieeaaGreatDoor
namespace Go.Proofs.YtcbmdghnlbieeaaGreatDoor

section
variable (name : Bytes)
def shP (p : Bytes) : Bytes := name ++ 47 :: p
def shE (x : Ent) : Ent := { x with path := shP name x.path }
theorem els_shP {name : Bytes} (h : ∀ c ∈ name, c ≠ 47) {p : Bytes} (hp : p ≠ []) : els (shP name p) = name :: els p := by
  have h1 : shP name p ≠ [] := by unfold shP; simp
  rw [els, if_neg h1, els, if_neg hp]
  unfold shP
  rw [elsGo_part name [] _ h, List.nil_append, elsGo, if_pos (by simp)]
theorem lastP_shP {name : Bytes} (h : ∀ c ∈ name, c ≠ 47) {p : Bytes} (hp : p ≠ []) : lastP (shP name p) = lastP p := by
  unfold lastP
  rw [els_shP h hp]
  have : els p ≠ [] := fun k => hp (els_nil.1 k)
  cases he : els p with
  | nil => exact absurd he this
  | cons q l => rfl
/-- What lies above a moved path. -/
theorem upP_shP {name : Bytes} (h : ∀ c ∈ name, c ≠ 47) {p : Bytes} (hp : p ≠ []) : upP (shP name p) = if upP p = [] ∧ (els p).dropLast = [] then name else shP name (upP p) := by
  unfold upP
  rw [els_shP h hp]
  have hne : els p ≠ [] := fun k => hp (els_nil.1 k)
  cases he : els p with
  | nil => exact absurd he hne
  | cons q l =>
    rw [List.dropLast_cons_of_ne_nil (by simp)]
    cases hd : (q :: l).dropLast with
    | nil => rw [if_pos ⟨rfl, rfl⟩]; rfl
    | cons r m => rw [if_neg (fun k => by simp at k), joinP_cons _ (by simp)]; rfl

def shD (name q : Bytes) : Bytes := if q = [] then name else shP name q
theorem shD_inj {name : Bytes} {a b : Bytes} (h : shD name a = shD name b) : a = b := by
  unfold shD shP at h
  by_cases ha : a = [] <;> by_cases hb : b = []
  · rw [ha, hb]
  · rw [if_pos ha, if_neg hb] at h
    have := congrArg List.length h
    rw [List.length_append, List.length_cons] at this
    omega
  · rw [if_neg ha, if_pos hb] at h
    have := congrArg List.length h
    rw [List.length_append, List.length_cons] at this
    omega
  · rw [if_neg ha, if_neg hb] at h
    exact (List.cons.inj (List.append_cancel_left h)).2
theorem upP_shD {name : Bytes} (h : ∀ c ∈ name, c ≠ 47) {p : Bytes} (hv : pathErr p = 0) (hp : p ≠ []) : upP (shP name p) = shD name (upP p) := by
  rw [upP_shP h hp, shD]
  have e : (els p).dropLast = [] ↔ upP p = [] := by rw [← els_upP hv, els_nil]
  by_cases k : upP p = []
  · rw [if_pos ⟨k, e.2 k⟩, if_pos k]
  · rw [if_neg (fun q => k q.1), if_neg k]
theorem list_shift {name : Bytes} (h : ∀ c ∈ name, c ≠ 47) (hn : name ≠ []) {t : List Ent} (ht : ∀ x ∈ t, pathErr x.path = 0 ∧ x.path ≠ []) (hs : ∀ x ∈ t, pathErr (shP name x.path) = 0) {d0 : Ent} (hd : d0.path = name) (q : Bytes) :
    listT (d0 :: t.map (shE name)) (shD name q) = (listT t q).map (shE name) := by
  have hup : upP name = [] := by
    have he : els name = [name] := by
      have := els_joinP (l := [name]) (fun p hp c hc => by rw [List.mem_singleton] at hp; subst hp; exact h c hc) hn
      exact this
    unfold upP
    rw [he]; rfl
  have hq : shD name q ≠ [] := by
    unfold shD shP
    by_cases k : q = []
    · rw [if_pos k]; exact hn
    · rw [if_neg k]; simp
  unfold listT
  rw [List.filter_cons, hd, hup, if_neg (by simp [hq]), List.filter_map]
  congr 1
  refine List.filter_congr fun x hx => ?_
  obtain ⟨v1, v2⟩ := ht x hx
  show (decide (pathErr (shP name x.path) = 0) && decide (shP name x.path ≠ []) && (upP (shP name x.path) == shD name q)) = _
  rw [upP_shD h v1 v2, hs x hx, v1]
  have e1 : shP name x.path ≠ [] := by unfold shP; simp
  have e2 : (shD name (upP x.path) == shD name q) = (upP x.path == q) := by
    by_cases k : upP x.path = q
    · rw [k]; simp
    · have : shD name (upP x.path) ≠ shD name q := fun j => k (shD_inj j)
      rw [beq_eq_false_iff_ne.2 this, beq_eq_false_iff_ne.2 k]
  rw [e2]
  simp [e1, v2]
theorem merk_shift (H net : Bytes → Bytes) (num nm : Int → Bytes) {name : Bytes} (h : ∀ c ∈ name, c ≠ 47) (hn : name ≠ []) {t : List Ent} (ht : ∀ x ∈ t, pathErr x.path = 0 ∧ x.path ≠ []) (hs : ∀ x ∈ t, pathErr (shP name x.path) = 0) {d0 : Ent} (hd : d0.path = name) :
    ∀ (n : Nat) (u v : Ent), u.path = shD name v.path → u.kind = v.kind → u.attrs = v.attrs → u.target = v.target → u.size = v.size → u.digest = v.digest → merkF H net num nm n (d0 :: t.map (shE name)) u = merkF H net num nm n t v := by
  intro n
  induction n with
  | zero => intros; rfl
  | succ n ih =>
    intro u v e1 e2 e3 e4 e5 e6
    have hf : frontP net num nm u = frontP net num nm v := by rw [frontP, frontP, e2, e3]
    rw [merkF, merkF, hf, e1, e2, e4, e5, e6, list_shift h hn ht hs hd, List.length_map]
    have hc : (((listT t v.path).map (shE name)).flatMap fun z => net (lastP z.path) ++ net (merkF H net num nm n (d0 :: t.map (shE name)) z)) = ((listT t v.path).flatMap fun z => net (lastP z.path) ++ net (merkF H net num nm n t z)) := by
      rw [List.flatMap_def, List.flatMap_def, List.map_map]
      congr 1
      refine List.map_congr_left fun z hz => ?_
      obtain ⟨z1, _⟩ := listT_mem.1 hz
      obtain ⟨v1, v2⟩ := ht z z1
      show net (lastP (shP name z.path)) ++ net (merkF H net num nm n (d0 :: t.map (shE name)) (shE name z)) = _
      rw [lastP_shP h v2, ih (shE name z) z (by rw [shD, if_neg v2]; rfl) rfl rfl rfl rfl rfl]
    rw [hc]
end
end Go.Proofs.YtcbmdghnlbieeaaGreatDoor
namespace Go.Proofs.YtcbmdghnlbieeaaGreatDoor

theorem ltE_shE {name : Bytes} (h : ∀ c ∈ name, c ≠ 47) {x y : Ent} (hx : x.path ≠ []) (hy : y.path ≠ []) : ltE (shE name x) (shE name y) = ltE x y := by
  show ltP (els (shP name x.path)) (els (shP name y.path)) = _
  rw [els_shP h hx, els_shP h hy, ltP, bl_irrefl]
  simp
theorem els_name {name : Bytes} (h : ∀ c ∈ name, c ≠ 47) (hn : name ≠ []) : els name = [name] :=
  els_joinP (l := [name]) (fun p hp c hc => by rw [List.mem_singleton] at hp; subst hp; exact h c hc) hn
theorem ltE_d0 {name : Bytes} (h : ∀ c ∈ name, c ≠ 47) (hn : name ≠ []) {d0 x : Ent} (hd : d0.path = name) (hx : x.path ≠ []) : ltE d0 (shE name x) = true := by
  show ltP (els d0.path) (els (shP name x.path)) = true
  rw [hd, els_name h hn, els_shP h hx, ltP, bl_irrefl]
  cases he : els x.path with
  | nil => exact absurd (els_nil.1 he) hx
  | cons q l => simp [ltP]
theorem moved_srt {name : Bytes} (h : ∀ c ∈ name, c ≠ 47) (hn : name ≠ []) {d0 : Ent} (hd : d0.path = name) {A : List Ent} (hA : SrtT A) (hp : ∀ x ∈ A, x.path ≠ []) : SrtT (d0 :: A.map (shE name)) := by
  refine List.pairwise_cons.2 ⟨fun z hz => ?_, List.pairwise_map.2 ?_⟩
  · obtain ⟨x, hx, rfl⟩ := List.mem_map.1 hz
    exact ltE_d0 h hn hd (hp x hx)
  · refine List.Pairwise.imp_of_mem (fun {x y} hx hy k => ?_) hA
    exact (ltE_shE h (hp x hx) (hp y hy)).trans k
theorem putT_last {M : List Ent} (hM : SrtT M) {e : Ent} (hl : ∀ a ∈ M, ltE a e = true) : putT M e = M ++ [e] := by
  refine (putT_srt hM e).ext (List.pairwise_append.2 ⟨hM, List.pairwise_singleton _ _, fun a ha b hb => ?_⟩) fun z => ?_
  · rw [List.mem_singleton] at hb
    subst hb
    exact hl a ha
  · rw [putT_mem hM, List.mem_append, List.mem_singleton]
    constructor
    · rintro (k | ⟨k, _⟩)
      · exact .inr k
      · exact .inl k
    · rintro (k | k)
      · exact .inr ⟨k, ltE_ne (hl z k)⟩
      · exact .inl k
theorem entErr_shE {name : Bytes} {x : Ent} (hx : x.path ≠ []) (he : entErr x = 0) (hs : pathErr (shP name x.path) = 0) : entErr (shE name x) = 0 := by
  have hp := (entErr_ok he).2.2.1
  have e1 : shP name x.path ≠ [] := by unfold shP; simp
  unfold entErr at he ⊢
  show (if x.kind < 1 ∨ 6 < x.kind then (10 : Int) else if pathErr (shP name x.path) ≠ 0 then pathErr (shP name x.path) else if shP name x.path = [] ∧ x.kind < 5 then 1 else _) = 0
  rw [hs]
  rw [hp] at he
  by_cases h1 : x.kind < 1 ∨ 6 < x.kind
  · rw [if_pos h1] at he; omega
  · rw [if_neg h1] at he ⊢
    rw [if_neg (by omega), if_neg (fun k => hx k.1)] at he
    rw [if_neg (by omega), if_neg (fun k => e1 k.1)]
    exact he
/-- One entry more of a tree that is moved. -/
theorem move_step {name : Bytes} (h : ∀ c ∈ name, c ≠ 47) (hn : name ≠ []) {d0 : Ent} (hd : d0.path = name) (hk : d0.kind = 2) {A B : List Ent} {x : Ent} (ht : OkT (A ++ x :: B)) (hl : (A ++ x :: B).length ≤ 60) (hs : pathErr (shP name x.path) = 0) :
    applyT (d0 :: A.map (shE name)) (shE name x) = (d0 :: (A ++ [x]).map (shE name), 0) := by
  have hp : ∀ z ∈ A ++ x :: B, z.path ≠ [] := fun z hz k => by
    have a := (entErr_ok (ht.ent z hz)).2.2.2 k
    have b := ht.kind z hz
    omega
  have hxm : x ∈ A ++ x :: B := by simp
  have hpA : ∀ z ∈ A, z.path ≠ [] := fun z hz => hp z (List.mem_append_left _ hz)
  obtain ⟨s1, s2, s3⟩ := List.pairwise_append.1 ht.srt
  have hM := moved_srt h hn hd s1 hpA
  have hlt : ∀ a ∈ d0 :: A.map (shE name), ltE a (shE name x) = true := fun a ha => by
    rcases List.mem_cons.1 ha with rfl | ha
    · exact ltE_d0 h hn hd (hp x hxm)
    · obtain ⟨z, hz, rfl⟩ := List.mem_map.1 ha
      rw [ltE_shE h (hpA z hz) (hp x hxm)]
      exact s3 z hz x (List.mem_cons_self ..)
  have hx3 : x.kind ≤ 3 := by have := ht.kind x hxm; omega
  have hv := (entErr_ok (ht.ent x hxm)).2.2.1
  have hnone : getT (d0 :: A.map (shE name)) (shE name x).path = none := getT_none fun z hz k => ltE_ne (hlt z hz) k
  refine applyT_iff.2 ⟨⟨entErr_shE (hp x hxm) (ht.ent x hxm) hs, fun k => absurd k (by show ¬ 3 < x.kind; omega), fun _ => ?_, fun _ y hy => (by rw [hnone] at hy; cases hy), fun _ _ => ?_⟩, ?_⟩
  · show dirErr _ (upP (shP name x.path)) = 0
    rw [upP_shD h hv (hp x hxm), dirErr_eq]
    rcases dirErr_eq.1 (ht.up x hxm) with k | ⟨y, k, k'⟩
    · refine .inr ⟨d0, ?_, hk⟩
      have g := getT_mem hM (List.mem_cons_self ..)
      rw [k, shD, if_pos rfl]
      rwa [hd] at g
    · obtain ⟨hy, hyp⟩ := getT_some k
      have hyx : ltE y x = true := by
        show ltP (els y.path) (els x.path) = true
        rw [hyp, els_upP hv]
        have hne : els x.path ≠ [] := fun q => hp x hxm (els_nil.1 q)
        have := ltP_prefix (els x.path).dropLast [(els x.path).getLast hne] (by simp)
        rwa [List.dropLast_concat_getLast hne] at this
      have hyA : y ∈ A := by
        rcases List.mem_append.1 hy with q | q
        · exact q
        · rcases List.mem_cons.1 q with q | q
          · rw [q] at hyx; exact absurd rfl (ltE_ne hyx)
          · have := (List.pairwise_cons.1 s2).1 y q
            have q2 : ltE y x = false := ltP_asymm this
            rw [q2] at hyx
            exact absurd hyx (by simp)
      refine .inr ⟨shE name y, ?_, k'⟩
      rw [← hyp, shD, if_neg (hpA y hyA)]
      exact getT_mem hM (List.mem_cons_of_mem _ (List.mem_map_of_mem hyA))
  · rw [List.length_append, List.length_cons] at hl
    rw [List.length_cons, List.length_map]
    omega
  · rw [opT, if_neg (by show ¬ 3 < x.kind; omega), putT_last hM hlt]
    simp
end Go.Proofs.YtcbmdghnlbieeaaGreatDoor
