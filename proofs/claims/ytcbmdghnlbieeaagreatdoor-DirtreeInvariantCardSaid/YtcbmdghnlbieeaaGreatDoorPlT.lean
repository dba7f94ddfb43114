/-
  Plain laws of trees of entries: what Apply does. No program.
  Plain laws of trees of entries: Apply keeps a tree valid. No program.
  Plain laws of trees of entries: unrelated entries commute. No program.
  Plain laws of trees: where an entry is put. No program.
-/
import Derived.Test.YtcbmdghnlbieeaaGreatDoorTre
namespace Go.Proofs.YtcbmdghnlbieeaaGreatDoor

abbrev ltE (x y : Ent) : Bool := ltP (els x.path) (els y.path)
theorem ltE_ne {x y : Ent} (h : ltE x y = true) : x.path ≠ y.path := fun e => ltP_ne h (by rw [e])
theorem ltE_total (x y : Ent) : ltE x y = true ∨ x.path = y.path ∨ ltE y x = true := by
  rcases ltP_total (els x.path) (els y.path) with h | h | h
  · exact .inl h
  · exact .inr (.inl (els_inj h))
  · exact .inr (.inr h)

def putTGo (e : Ent) : Bool → List Ent → List Ent → List Ent
  | d, out, [] => if d then out else out ++ [e]
  | d, out, y :: l => putTGo e (d || !(ltE y e)) ((if !d && !(ltE y e) then out ++ [e] else out) ++ (if y.path == e.path then [] else [y])) l
/-- An entry at its place in a tree, in the stead of one of its path. -/
def putT (t : List Ent) (e : Ent) : List Ent := putTGo e false [] t
def applyT (t : List Ent) (e : Ent) : List Ent × Int :=
  if entErr e ≠ 0 then ([], entErr e)
  else if 3 < e.kind then
    if getT t e.path = none ∧ e.path ≠ [] then ([], 9)
    else if e.kind = 4 then (t.filter fun x => !(under x.path e.path), 0) else (t, 0)
  else if dirErr t (upP e.path) ≠ 0 then ([], dirErr t (upP e.path))
  else match getT t e.path with
    | some y => if (y.kind == 2) != (e.kind == 2) then ([], 8) else (putT t e, 0)
    | none => if 5000 ≤ t.length then ([], 6) else (putT t e, 0)

theorem putTGo_done (e : Ent) (l : List Ent) : ∀ out, putTGo e true out l = out ++ l.filter fun y => !(y.path == e.path) := by
  induction l with
  | nil => intro out; simp [putTGo]
  | cons y l ih =>
    intro out
    rw [putTGo]
    simp only [Bool.true_or, Bool.not_true, Bool.false_and, Bool.false_eq_true, if_false]
    rw [ih, List.filter_cons]
    cases h : (y.path == e.path) <;> simp

theorem putT_split {t : List Ent} (h : SrtT t) (e : Ent) : ∃ A B, putT t e = A ++ e :: B ∧ (∀ a ∈ A, a ∈ t ∧ ltE a e = true) ∧ (∀ b ∈ B, b ∈ t ∧ ltE e b = true) ∧ (∀ z ∈ t, z.path ≠ e.path → z ∈ A ∨ z ∈ B) ∧ SrtT A ∧ SrtT B := by
  have key : ∀ (l : List Ent), SrtT l → ∀ out, ∃ A B, putTGo e false out l = out ++ (A ++ e :: B) ∧ (∀ a ∈ A, a ∈ l ∧ ltE a e = true) ∧ (∀ b ∈ B, b ∈ l ∧ ltE e b = true) ∧ (∀ z ∈ l, z.path ≠ e.path → z ∈ A ∨ z ∈ B) ∧ SrtT A ∧ SrtT B := by
    intro l
    induction l with
    | nil => intro _ out; exact ⟨[], [], by simp [putTGo], by simp, by simp, by simp, List.Pairwise.nil, List.Pairwise.nil⟩
    | cons y l ih =>
      intro hs out
      obtain ⟨h1, h2⟩ := List.pairwise_cons.1 hs
      rw [putTGo]
      cases hb : ltE y e
      · simp only [Bool.not_false, Bool.or_true, Bool.and_self, if_true]
        rw [putTGo_done]
        have hrest : ∀ z ∈ l, ltE e z = true := by
          intro z hz
          rcases ltE_total e y with k | k | k
          · exact ltP_trans k (h1 z hz)
          · show ltP (els e.path) _ = true
            rw [k]; exact h1 z hz
          · rw [hb] at k; exact absurd k (by simp)
        have hf : (l.filter fun z => !(z.path == e.path)) = l := List.filter_eq_self.2 fun z hz => by
          have := (ltE_ne (hrest z hz)).symm
          simpa using this
        rw [hf]
        by_cases k : y.path = e.path
        · rw [if_pos (by simpa using k)]
          refine ⟨[], l, by simp, by simp, fun b hb => ⟨List.mem_cons_of_mem _ hb, hrest b hb⟩, fun z hz hne => ?_, List.Pairwise.nil, h2⟩
          rcases List.mem_cons.1 hz with rfl | hz
          · exact absurd k hne
          · exact .inr hz
        · have hxy : ltE e y = true := by
            rcases ltE_total e y with h | h | h
            · exact h
            · exact absurd h.symm k
            · rw [h] at hb; exact absurd hb (by simp)
          rw [if_neg (by simpa using k)]
          refine ⟨[], y :: l, by simp, by simp, fun b hb => ⟨hb, ?_⟩, fun z hz _ => .inr hz, List.Pairwise.nil, hs⟩
          rcases List.mem_cons.1 hb with rfl | hb
          · exact hxy
          · exact hrest b hb
      · have hne : (y.path == e.path) = false := by simpa using ltE_ne hb
        simp only [Bool.not_true, Bool.or_false, Bool.and_false, Bool.false_eq_true, if_false, hne]
        obtain ⟨A, B, q, a1, a2, a3, a4, a5⟩ := ih h2 (out ++ [y])
        refine ⟨y :: A, B, by rw [q]; simp, fun a ha => ?_, fun b hb => ⟨List.mem_cons_of_mem _ (a2 b hb).1, (a2 b hb).2⟩, fun z hz hzn => ?_, List.pairwise_cons.2 ⟨fun a ha => h1 a (a1 a ha).1, a4⟩, a5⟩
        · rcases List.mem_cons.1 ha with rfl | ha
          · exact ⟨List.mem_cons_self .., hb⟩
          · exact ⟨List.mem_cons_of_mem _ (a1 a ha).1, (a1 a ha).2⟩
        · rcases List.mem_cons.1 hz with rfl | hz
          · exact .inl (List.mem_cons_self ..)
          · rcases a3 z hz hzn with h | h
            · exact .inl (List.mem_cons_of_mem _ h)
            · exact .inr h
  obtain ⟨A, B, q, r⟩ := key t h []
  exact ⟨A, B, q, r⟩

theorem putT_srt {t : List Ent} (h : SrtT t) (e : Ent) : SrtT (putT t e) := by
  obtain ⟨A, B, q, a1, a2, _, a4, a5⟩ := putT_split h e
  rw [q]
  refine List.pairwise_append.2 ⟨a4, List.pairwise_cons.2 ⟨fun b hb => (a2 b hb).2, a5⟩, fun a ha b hb => ?_⟩
  rcases List.mem_cons.1 hb with rfl | hb
  · exact (a1 a ha).2
  · exact ltP_trans (a1 a ha).2 (a2 b hb).2
theorem putT_mem {t : List Ent} (h : SrtT t) (e z : Ent) : z ∈ putT t e ↔ z = e ∨ (z ∈ t ∧ z.path ≠ e.path) := by
  obtain ⟨A, B, q, a1, a2, a3, _, _⟩ := putT_split h e
  rw [q, List.mem_append, List.mem_cons]
  constructor
  · rintro (hz | hz | hz)
    · exact .inr ⟨(a1 z hz).1, ltE_ne (a1 z hz).2⟩
    · exact .inl hz
    · exact .inr ⟨(a2 z hz).1, (ltE_ne (a2 z hz).2).symm⟩
  · rintro (hz | ⟨hz, hn⟩)
    · exact .inr (.inl hz)
    · rcases a3 z hz hn with h | h
      · exact .inl h
      · exact .inr (.inr h)
theorem getT_put {t : List Ent} (h : SrtT t) (e : Ent) : getT (putT t e) e.path = some e := getT_mem (putT_srt h e) ((putT_mem h e e).2 (.inl rfl))
theorem getT_put_ne {t : List Ent} (h : SrtT t) (e : Ent) {p : Bytes} (hp : p ≠ e.path) : getT (putT t e) p = getT t p := by
  cases hg : getT t p with
  | some x =>
    obtain ⟨hx, rfl⟩ := getT_some hg
    exact getT_mem (putT_srt h e) ((putT_mem h e x).2 (.inr ⟨hx, hp⟩))
  | none =>
    refine getT_none fun z hz k => ?_
    rcases (putT_mem h e z).1 hz with rfl | ⟨hz, _⟩
    · exact hp k.symm
    · have := getT_mem h hz
      rw [k, hg] at this
      exact absurd this (by simp)
end Go.Proofs.YtcbmdghnlbieeaaGreatDoor
namespace Go.Proofs.YtcbmdghnlbieeaaGreatDoor

theorem joinP_ne {l : List Bytes} (h : l ≠ []) (hc : ∀ p ∈ l, p ≠ []) : joinP l ≠ [] := by
  cases l with
  | nil => exact absurd rfl h
  | cons p l =>
    cases l with
    | nil => exact hc p (by simp)
    | cons q l => rw [joinP_cons p (by simp)]; simp
/-- The parts of what lies above a path. -/
theorem els_upP {p : Bytes} (h : pathErr p = 0) : els (upP p) = (els p).dropLast := by
  obtain ⟨_, _, hc⟩ := pathErr_ok h
  have hd : ∀ q ∈ (els p).dropLast, comp q = true := fun q hq => hc q (List.dropLast_subset _ hq)
  unfold upP
  by_cases hn : (els p).dropLast = []
  · rw [hn]; rfl
  · exact els_joinP (fun q hq => comp_noslash (hd q hq)) (joinP_ne hn fun q hq => comp_ne (hd q hq))
theorem upP_ne {p : Bytes} (h : pathErr p = 0) (hp : p ≠ []) : upP p ≠ p := by
  intro e
  have h1 := els_upP h
  rw [e] at h1
  have hl := congrArg List.length h1
  rw [List.length_dropLast] at hl
  have : els p ≠ [] := fun k => hp (els_nil.1 k)
  have := List.length_pos_iff.2 this
  omega
theorem under_up {p d : Bytes} (h : pathErr p = 0) (hu : under (upP p) d = true) : under p d = true := by
  simp only [under, Bool.and_eq_true, decide_eq_true_eq] at hu ⊢
  obtain ⟨⟨_, h2⟩, h3⟩ := hu
  refine ⟨⟨h, h2⟩, ?_⟩
  rw [List.isPrefixOf_iff_prefix] at h3 ⊢
  rw [els_upP h] at h3
  exact h3.trans (List.dropLast_prefix _)

theorem entErr_ok {e : Ent} (h : entErr e = 0) : 1 ≤ e.kind ∧ e.kind ≤ 6 ∧ pathErr e.path = 0 ∧ (e.path = [] → 5 ≤ e.kind) := by
  unfold entErr at h
  by_cases h1 : e.kind < 1 ∨ 6 < e.kind
  · rw [if_pos h1] at h; omega
  rw [if_neg h1] at h
  by_cases h2 : pathErr e.path = 0
  case neg => rw [if_pos h2] at h; exact absurd h h2
  rw [if_neg (by omega)] at h
  by_cases h3 : e.path = [] ∧ e.kind < 5
  · rw [if_pos h3] at h; omega
  exact ⟨by omega, by omega, h2, fun hp => Int.not_lt.1 fun hk => h3 ⟨hp, hk⟩⟩

theorem dirErr_eq {t : List Ent} {p : Bytes} : dirErr t p = 0 ↔ p = [] ∨ ∃ x, getT t p = some x ∧ x.kind = 2 := by
  unfold dirErr
  by_cases h : p = []
  · rw [if_pos h]; exact ⟨fun _ => .inl h, fun _ => rfl⟩
  · rw [if_neg h]
    cases hg : getT t p with
    | none =>
      constructor
      · intro k; simp at k
      · rintro (k | ⟨x, k, _⟩)
        · exact absurd k h
        · simp at k
    | some x =>
      show (if x.kind ≠ 2 then (10 : Int) else 0) = 0 ↔ _
      by_cases hk : x.kind = 2
      · rw [if_neg (by omega)]; exact ⟨fun _ => .inr ⟨x, rfl, hk⟩, fun _ => rfl⟩
      · rw [if_pos hk]
        constructor
        · intro k; omega
        · rintro (k | ⟨y, k, k'⟩)
          · exact absurd k h
          · cases k; exact absurd k' hk

/-- A put entry with a directory above it, of its elder's kind, keeps a tree valid. -/
theorem putT_ok {t : List Ent} (h : OkT t) {e : Ent} (he : entErr e = 0) (hk : e.kind = 1 ∨ e.kind = 2 ∨ e.kind = 3) (hu : dirErr t (upP e.path) = 0) (hs : ∀ y, getT t e.path = some y → (y.kind = 2 ↔ e.kind = 2)) : OkT (putT t e) := by
  obtain ⟨_, _, hp, hpe⟩ := entErr_ok he
  have hne : e.path ≠ [] := fun k => by have := hpe k; omega
  refine ⟨fun z hz => ?_, fun z hz => ?_, putT_srt h.srt e, fun z hz => ?_⟩
  · rcases (putT_mem h.srt e z).1 hz with rfl | ⟨hz, _⟩
    · exact he
    · exact h.ent z hz
  · rcases (putT_mem h.srt e z).1 hz with rfl | ⟨hz, _⟩
    · exact hk
    · exact h.kind z hz
  · have hz' : dirErr t (upP z.path) = 0 := by
      rcases (putT_mem h.srt e z).1 hz with rfl | ⟨hz, _⟩
      · exact hu
      · exact h.up z hz
    rw [dirErr_eq] at hz' ⊢
    rcases hz' with k | ⟨x, k, k'⟩
    · exact .inl k
    · by_cases q : upP z.path = e.path
      · refine .inr ⟨e, by rw [q]; exact getT_put h.srt e, ?_⟩
        rw [q] at k
        exact (hs x k).1 k'
      · exact .inr ⟨x, by rw [getT_put_ne h.srt e q]; exact k, k'⟩
/-- Without a path and what is under it a tree is still valid. -/
theorem cutT_ok {t : List Ent} (h : OkT t) (d : Bytes) : OkT (t.filter fun x => !(under x.path d)) := by
  have hm : ∀ z, z ∈ (t.filter fun x => !(under x.path d)) ↔ z ∈ t ∧ under z.path d = false := fun z => by simp [List.mem_filter]
  have hs : SrtT (t.filter fun x => !(under x.path d)) := List.Pairwise.filter _ h.srt
  refine ⟨fun z hz => h.ent z ((hm z).1 hz).1, fun z hz => h.kind z ((hm z).1 hz).1, hs, fun z hz => ?_⟩
  obtain ⟨hz1, hz2⟩ := (hm z).1 hz
  have hp := (entErr_ok (h.ent z hz1)).2.2.1
  have hz' := h.up z hz1
  rw [dirErr_eq] at hz' ⊢
  rcases hz' with k | ⟨x, k, k'⟩
  · exact .inl k
  · obtain ⟨hx, hxp⟩ := getT_some k
    refine .inr ⟨x, ?_, k'⟩
    rw [← hxp]
    refine getT_mem hs ((hm x).2 ⟨hx, ?_⟩)
    cases q : under x.path d with
    | false => rfl
    | true =>
      rw [hxp] at q
      rw [under_up hp q] at hz2
      exact absurd hz2 (by simp)
theorem applyT_ok {t t' : List Ent} (h : OkT t) {e : Ent} (ha : applyT t e = (t', 0)) : OkT t' := by
  unfold applyT at ha
  by_cases h0 : entErr e = 0
  case neg => rw [if_pos h0] at ha; exact absurd (Prod.mk.inj ha).2 h0
  rw [if_neg (by omega)] at ha
  have hk := entErr_ok h0
  by_cases h1 : 3 < e.kind
  · rw [if_pos h1] at ha
    by_cases h2 : getT t e.path = none ∧ e.path ≠ []
    · rw [if_pos h2] at ha; simp at ha
    · rw [if_neg h2] at ha
      by_cases h3 : e.kind = 4
      · rw [if_pos h3] at ha
        rw [← (Prod.mk.inj ha).1]
        exact cutT_ok h _
      · rw [if_neg h3] at ha
        rw [← (Prod.mk.inj ha).1]
        exact h
  · rw [if_neg h1] at ha
    by_cases h2 : dirErr t (upP e.path) = 0
    case neg => rw [if_pos h2] at ha; exact absurd (Prod.mk.inj ha).2 h2
    rw [if_neg (by omega)] at ha
    cases hg : getT t e.path with
    | none =>
      rw [hg] at ha
      change (if 5000 ≤ t.length then (([] : List Ent), (6 : Int)) else (putT t e, 0)) = _ at ha
      by_cases h3 : 5000 ≤ t.length
      · rw [if_pos h3] at ha; simp at ha
      · rw [if_neg h3] at ha
        rw [← (Prod.mk.inj ha).1]
        exact putT_ok h h0 (by omega) h2 fun y hy => by rw [hg] at hy; cases hy
    | some y =>
      rw [hg] at ha
      change (if ((y.kind == 2) != (e.kind == 2)) = true then (([] : List Ent), (8 : Int)) else (putT t e, 0)) = _ at ha
      by_cases h3 : ((y.kind == 2) != (e.kind == 2)) = true
      · rw [if_pos h3] at ha; simp at ha
      · rw [if_neg h3] at ha
        rw [← (Prod.mk.inj ha).1]
        refine putT_ok h h0 (by omega) h2 fun z hz => ?_
        rw [hg] at hz
        cases hz
        have h4 : (y.kind == 2) = (e.kind == 2) := by simpa using h3
        constructor
        · intro k; rw [k] at h4; simpa using h4.symm
        · intro k; rw [k] at h4; simpa using h4
end Go.Proofs.YtcbmdghnlbieeaaGreatDoor
namespace Go.Proofs.YtcbmdghnlbieeaaGreatDoor

def opT (t : List Ent) (e : Ent) : List Ent := if 3 < e.kind then (if e.kind = 4 then t.filter fun x => !(under x.path e.path) else t) else putT t e
structure PreT (t : List Ent) (e : Ent) : Prop where
  ent : entErr e = 0
  there : 3 < e.kind → ¬ (getT t e.path = none ∧ e.path ≠ [])
  up : e.kind ≤ 3 → dirErr t (upP e.path) = 0
  like : e.kind ≤ 3 → ∀ y, getT t e.path = some y → (y.kind == 2) = (e.kind == 2)
  room : e.kind ≤ 3 → getT t e.path = none → t.length < 5000
theorem applyT_iff {t a : List Ent} {e : Ent} : applyT t e = (a, 0) ↔ PreT t e ∧ a = opT t e := by
  unfold applyT opT
  by_cases h0 : entErr e = 0
  case neg =>
    rw [if_pos h0]
    exact ⟨fun h => absurd (Prod.mk.inj h).2 h0, fun h => absurd h.1.ent h0⟩
  rw [if_neg (by omega)]
  by_cases h1 : 3 < e.kind
  · rw [if_pos h1, if_pos h1]
    by_cases h2 : getT t e.path = none ∧ e.path ≠ []
    · rw [if_pos h2]
      exact ⟨fun h => absurd (Prod.mk.inj h).2 (by decide), fun h => absurd h2 (h.1.there h1)⟩
    · rw [if_neg h2]
      have hp : PreT t e := ⟨h0, fun _ => h2, fun k => by omega, fun k => by omega, fun k => by omega⟩
      by_cases h3 : e.kind = 4
      · rw [if_pos h3, if_pos h3]
        exact ⟨fun h => ⟨hp, (Prod.mk.inj h).1.symm⟩, fun h => by rw [h.2]⟩
      · rw [if_neg h3, if_neg h3]
        exact ⟨fun h => ⟨hp, (Prod.mk.inj h).1.symm⟩, fun h => by rw [h.2]⟩
  · rw [if_neg h1, if_neg h1]
    by_cases h2 : dirErr t (upP e.path) = 0
    case neg =>
      rw [if_pos h2]
      exact ⟨fun h => absurd (Prod.mk.inj h).2 h2, fun h => absurd (h.1.up (by omega)) h2⟩
    rw [if_neg (by omega)]
    cases hg : getT t e.path with
    | none =>
      show (if 5000 ≤ t.length then (([] : List Ent), (6 : Int)) else (putT t e, 0)) = (a, 0) ↔ _
      by_cases h3 : 5000 ≤ t.length
      · rw [if_pos h3]
        exact ⟨fun h => absurd (Prod.mk.inj h).2 (by decide), fun h => absurd (h.1.room (by omega) hg) (by omega)⟩
      · rw [if_neg h3]
        exact ⟨fun h => ⟨⟨h0, fun k => absurd k h1, fun _ => h2, fun _ y hy => (by rw [hg] at hy; cases hy), fun _ _ => (by omega)⟩, (Prod.mk.inj h).1.symm⟩, fun h => by rw [h.2]⟩
    | some y =>
      show (if ((y.kind == 2) != (e.kind == 2)) = true then (([] : List Ent), (8 : Int)) else (putT t e, 0)) = (a, 0) ↔ _
      by_cases h3 : ((y.kind == 2) != (e.kind == 2)) = true
      · rw [if_pos h3]
        refine ⟨fun h => absurd (Prod.mk.inj h).2 (by decide), fun h => ?_⟩
        have := h.1.like (by omega) y hg
        rw [this] at h3
        simp at h3
      · rw [if_neg h3]
        exact ⟨fun h => ⟨⟨h0, fun k => absurd k h1, fun _ => h2, fun _ z hz => (by rw [hg] at hz; cases hz; simpa using h3), fun _ hn => (by rw [hg] at hn; cases hn)⟩, (Prod.mk.inj h).1.symm⟩, fun h => by rw [h.2]⟩

theorem opT_srt {t : List Ent} (h : SrtT t) (e : Ent) : SrtT (opT t e) := by
  unfold opT
  by_cases h1 : 3 < e.kind
  · rw [if_pos h1]
    by_cases h2 : e.kind = 4
    · rw [if_pos h2]; exact List.Pairwise.filter _ h
    · rw [if_neg h2]; exact h
  · rw [if_neg h1]; exact putT_srt h e
/-- What an entry lets stand. -/
def keepT (e z : Ent) : Prop := (e.kind ≤ 3 → z.path ≠ e.path) ∧ (e.kind = 4 → under z.path e.path = false)
theorem opT_mem {t : List Ent} (h : SrtT t) (e z : Ent) : z ∈ opT t e ↔ (e.kind ≤ 3 ∧ z = e) ∨ (z ∈ t ∧ keepT e z) := by
  unfold opT keepT
  by_cases h1 : 3 < e.kind
  · rw [if_pos h1]
    by_cases h2 : e.kind = 4
    · rw [if_pos h2, List.mem_filter]
      constructor
      · rintro ⟨a, b⟩; exact .inr ⟨a, fun k => by omega, fun _ => by simpa using b⟩
      · rintro (⟨k, _⟩ | ⟨a, _, b⟩)
        · omega
        · exact ⟨a, by simpa using b h2⟩
    · rw [if_neg h2]
      constructor
      · intro a; exact .inr ⟨a, fun k => by omega, fun k => absurd k h2⟩
      · rintro (⟨k, _⟩ | ⟨a, _⟩)
        · omega
        · exact a
  · rw [if_neg h1, putT_mem h]
    constructor
    · rintro (k | ⟨a, b⟩)
      · exact .inl ⟨by omega, k⟩
      · exact .inr ⟨a, fun _ => b, fun k => by omega⟩
    · rintro (⟨_, k⟩ | ⟨a, b, _⟩)
      · exact .inl k
      · exact .inr ⟨a, b (by omega)⟩
/-- An entry leaves alone what is not under its path. -/
theorem opT_get {t : List Ent} (h : OkT t) {e : Ent} (hp : pathErr e.path = 0) {p : Bytes} (hn : ¬ els e.path <+: els p) : getT (opT t e) p = getT t p := by
  have hk : ∀ z : Ent, z.path = p → keepT e z := fun z hz => by
    refine ⟨fun _ k => hn (by rw [← hz, k]; exact List.prefix_refl _), fun _ => ?_⟩
    cases hu : under z.path e.path with
    | false => rfl
    | true =>
      simp only [under, Bool.and_eq_true] at hu
      rw [List.isPrefixOf_iff_prefix, hz] at hu
      exact absurd hu.2 hn
  have hs := opT_srt h.srt e
  cases hg : getT t p with
  | some x =>
    obtain ⟨hx, rfl⟩ := getT_some hg
    exact getT_mem hs ((opT_mem h.srt e x).2 (.inr ⟨hx, hk x rfl⟩))
  | none =>
    refine getT_none fun z hz k => ?_
    rcases (opT_mem h.srt e z).1 hz with ⟨_, rfl⟩ | ⟨hz, _⟩
    · exact hn (by rw [k]; exact List.prefix_refl _)
    · have := getT_mem h.srt hz
      rw [k, hg] at this
      exact absurd this (by simp)
/-- What f asks stands whether e is applied before it or not. -/
theorem PreT.past {t : List Ent} (h : OkT t) {e f : Ent} (he : pathErr e.path = 0) (hn : ¬ els e.path <+: els f.path) (hl : t.length < 5000 ∨ f.kind > 3) : PreT (opT t e) f → PreT t f := by
  intro p
  have hf := (entErr_ok p.ent).2.2.1
  have g1 := opT_get h he hn
  have g2 : getT (opT t e) (upP f.path) = getT t (upP f.path) := opT_get h he fun k => hn (by
    rw [els_upP hf] at k
    exact k.trans (List.dropLast_prefix _))
  have d : dirErr (opT t e) (upP f.path) = dirErr t (upP f.path) := by unfold dirErr; rw [g2]
  exact ⟨p.ent, fun k => by have := p.there k; rwa [g1] at this, fun k => by have := p.up k; rwa [d] at this, fun k y hy => p.like k y (by rw [g1]; exact hy), fun k _ => by omega⟩
theorem PreT.fore {t : List Ent} (h : OkT t) {e f : Ent} (he : pathErr e.path = 0) (hn : ¬ els e.path <+: els f.path) (hl : (opT t e).length < 5000) : PreT t f → PreT (opT t e) f := by
  intro p
  have hf := (entErr_ok p.ent).2.2.1
  have g1 := opT_get h he hn
  have g2 : getT (opT t e) (upP f.path) = getT t (upP f.path) := opT_get h he fun k => hn (by
    rw [els_upP hf] at k
    exact k.trans (List.dropLast_prefix _))
  have d : dirErr (opT t e) (upP f.path) = dirErr t (upP f.path) := by unfold dirErr; rw [g2]
  exact ⟨p.ent, fun k => by rw [g1]; exact p.there k, fun k => by rw [d]; exact p.up k, fun k y hy => p.like k y (by rw [← g1]; exact hy), fun _ _ => hl⟩
theorem opT_comm {t : List Ent} (h : SrtT t) {e f : Ent} (h1 : keepT e f) (h2 : keepT f e) : opT (opT t e) f = opT (opT t f) e := by
  refine (opT_srt (opT_srt h e) f).ext (opT_srt (opT_srt h f) e) fun z => ?_
  rw [opT_mem (opT_srt h e), opT_mem (opT_srt h f), opT_mem h, opT_mem h]
  constructor
  · rintro (⟨k, rfl⟩ | ⟨⟨k, rfl⟩ | ⟨k, k'⟩, k''⟩)
    · exact .inr ⟨.inl ⟨k, rfl⟩, h1⟩
    · exact .inl ⟨k, rfl⟩
    · exact .inr ⟨.inr ⟨k, k''⟩, k'⟩
  · rintro (⟨k, rfl⟩ | ⟨⟨k, rfl⟩ | ⟨k, k'⟩, k''⟩)
    · exact .inr ⟨.inl ⟨k, rfl⟩, h2⟩
    · exact .inl ⟨k, rfl⟩
    · exact .inr ⟨.inr ⟨k, k''⟩, k'⟩
theorem putT_len (t : List Ent) (e : Ent) : (putT t e).length ≤ t.length + 1 := by
  have : ∀ (l out : List Ent) (d : Bool), (putTGo e d out l).length ≤ out.length + l.length + 1 := by
    intro l
    induction l with
    | nil => intro out d; cases d <;> simp [putTGo]
    | cons y l ih =>
      intro out d
      rw [putTGo]
      cases hc : (!d && !(ltE y e))
      · refine Nat.le_trans (ih _ _) ?_
        cases h : (y.path == e.path) <;> simp <;> omega
      · have hd : (d || !(ltE y e)) = true := by
          simp only [Bool.and_eq_true] at hc
          rw [hc.2]; simp
        rw [hd, putTGo_done]
        have := List.length_filter_le (fun y : Ent => !(y.path == e.path)) l
        cases h : (y.path == e.path) <;> simp <;> omega
  simpa [putT] using this t [] false
theorem opT_len (t : List Ent) (e : Ent) : (opT t e).length ≤ t.length + 1 := by
  unfold opT
  by_cases h1 : 3 < e.kind
  · rw [if_pos h1]
    by_cases h2 : e.kind = 4
    · rw [if_pos h2]; exact Nat.le_trans (List.length_filter_le _ _) (Nat.le_succ _)
    · rw [if_neg h2]; exact Nat.le_succ _
  · rw [if_neg h1]; exact putT_len t e
/-- Unrelated entries commute. -/
theorem apply_comm {t a b : List Ent} (h : OkT t) (hl : t.length ≤ 60) {e f : Ent} (u1 : under e.path f.path = false) (u2 : under f.path e.path = false) (h1 : applyT t e = (a, 0)) (h2 : applyT a f = (b, 0)) :
    ∃ c, applyT t f = (c, 0) ∧ applyT c e = (b, 0) := by
  obtain ⟨p1, rfl⟩ := applyT_iff.1 h1
  obtain ⟨p2, rfl⟩ := applyT_iff.1 h2
  have he := (entErr_ok p1.ent).2.2.1
  have hf := (entErr_ok p2.ent).2.2.1
  have n1 : ¬ els e.path <+: els f.path := fun k => by
    rw [under, he, hf, List.isPrefixOf_iff_prefix.2 k] at u2; simp at u2
  have n2 : ¬ els f.path <+: els e.path := fun k => by
    rw [under, he, hf, List.isPrefixOf_iff_prefix.2 k] at u1; simp at u1
  have hne : f.path ≠ e.path := fun k => n1 (by rw [k]; exact List.prefix_refl _)
  have q2 := PreT.past h he n1 (.inl (by omega)) p2
  have q1 := PreT.fore h hf n2 (by have := opT_len t f; omega) p1
  exact ⟨_, applyT_iff.2 ⟨q2, rfl⟩, applyT_iff.2 ⟨q1, opT_comm h.srt ⟨fun _ => hne, fun _ => u2⟩ ⟨fun _ => hne.symm, fun _ => u1⟩⟩⟩
end Go.Proofs.YtcbmdghnlbieeaaGreatDoor
namespace Go.Proofs.YtcbmdghnlbieeaaGreatDoor

/-- A binary search's own loop. -/
def bs (p : Nat → Bool) (lo hi : Nat) : Nat :=
  if h : lo < hi then (if p ((lo + hi) / 2) then bs p lo ((lo + hi) / 2) else bs p ((lo + hi) / 2 + 1) hi) else lo
termination_by hi - lo
decreasing_by all_goals omega

theorem bs_le (p : Nat → Bool) (lo hi : Nat) (h : lo ≤ hi) : lo ≤ bs p lo hi ∧ bs p lo hi ≤ hi := by
  induction lo, hi using bs.induct p with
  | case1 lo hi hlt hp ih => rw [bs, dif_pos hlt, if_pos hp]; have := ih (by omega); omega
  | case2 lo hi hlt hp ih => rw [bs, dif_pos hlt, if_neg hp]; have := ih (by omega); omega
  | case3 lo hi hlt => rw [bs, dif_neg hlt]; omega

theorem bs_spec (p : Nat → Bool) (lo hi : Nat) (h : lo ≤ hi) : (lo < bs p lo hi → p (bs p lo hi - 1) = false) ∧ (bs p lo hi < hi → p (bs p lo hi) = true) := by
  induction lo, hi using bs.induct p with
  | case1 lo hi hlt hp ih =>
    rw [bs, dif_pos hlt, if_pos hp]
    have h1 := ih (by omega)
    refine ⟨h1.1, fun h2 => ?_⟩
    by_cases h3 : bs p lo ((lo + hi) / 2) < (lo + hi) / 2
    · exact h1.2 h3
    · have := bs_le p lo ((lo + hi) / 2) (by omega)
      rw [show bs p lo ((lo + hi) / 2) = (lo + hi) / 2 by omega]; exact hp
  | case2 lo hi hlt hp ih =>
    rw [bs, dif_pos hlt, if_neg hp]
    have h1 := ih (by omega)
    refine ⟨fun h2 => ?_, h1.2⟩
    by_cases h3 : (lo + hi) / 2 + 1 < bs p ((lo + hi) / 2 + 1) hi
    · exact h1.1 h3
    · have := bs_le p ((lo + hi) / 2 + 1) hi (by omega)
      rw [show bs p ((lo + hi) / 2 + 1) hi - 1 = (lo + hi) / 2 by omega]; simpa using hp
  | case3 lo hi hlt => rw [bs, dif_neg hlt]; exact ⟨fun h => by omega, fun h => by omega⟩

/-- Put in the stead of the entry of its path. -/
theorem putT_set {t : List Ent} (h : SrtT t) (e : Ent) {i : Nat} (hi : i < t.length) (hp : t[i].path = e.path) : putT t e = t.set i e := by
  have hle : ∀ (a : Ent), ltE a e = ltE a t[i] := fun a => by unfold ltE; rw [hp]
  have hle2 : ∀ (a : Ent), ltE e a = ltE t[i] a := fun a => by unfold ltE; rw [hp]
  have hpw := List.pairwise_iff_getElem.1 h
  have hsrt : SrtT (t.set i e) := by
    refine List.pairwise_iff_getElem.2 fun a b ha hb hab => ?_
    rw [List.length_set] at ha hb
    have h0 := hpw a b ha hb hab
    rw [List.getElem_set, List.getElem_set]
    by_cases h1 : i = a
    · subst h1
      rw [if_pos rfl, if_neg (by omega)]
      show ltE e t[b] = true
      rw [hle2]; exact h0
    · rw [if_neg h1]
      by_cases h2 : i = b
      · subst h2
        rw [if_pos rfl]
        show ltE t[a] e = true
        rw [hle]; exact h0
      · rw [if_neg h2]; exact h0
  refine SrtT.ext (putT_srt h e) hsrt fun z => ?_
  rw [putT_mem h]
  constructor
  · rintro (rfl | ⟨hz, hne⟩)
    · exact List.mem_set hi _
    · obtain ⟨j, hj, rfl⟩ := List.getElem_of_mem hz
      have hij : i ≠ j := fun e2 => hne (by subst e2; exact hp)
      have : (t.set i e)[j]'(by rw [List.length_set]; exact hj) = t[j] := List.getElem_set_ne hij _
      rw [← this]
      exact List.getElem_mem _
  · intro hz
    obtain ⟨j, hj, rfl⟩ := List.getElem_of_mem hz
    rw [List.length_set] at hj
    rw [List.getElem_set]
    by_cases hij : i = j
    · rw [if_pos hij]; exact .inl rfl
    · rw [if_neg hij]
      refine .inr ⟨List.getElem_mem _, fun he => ?_⟩
      have hne : t[j].path ≠ t[i].path := by
        rcases Nat.lt_or_gt_of_ne hij with h1 | h1
        · exact (ltE_ne (hpw i j hi hj h1)).symm
        · exact ltE_ne (hpw j i hj hi h1)
      exact hne (he.trans hp.symm)

/-- Put between what is less and what is greater. -/
theorem putT_ins {t : List Ent} (h : SrtT t) (e : Ent) {i : Nat} (hi : i ≤ t.length) (hl : ∀ k (hk : k < t.length), k < i → ltE t[k] e = true) (hg : ∀ k (hk : k < t.length), i ≤ k → ltE e t[k] = true) : putT t e = t.take i ++ e :: t.drop i := by
  have hpw := List.pairwise_iff_getElem.1 h
  have hsrt : SrtT (t.take i ++ e :: t.drop i) := by
    refine List.pairwise_append.2 ⟨List.Pairwise.sublist (List.take_sublist _ _) h, List.pairwise_cons.2 ⟨fun b hb => ?_, List.Pairwise.sublist (List.drop_sublist _ _) h⟩, fun a ha b hb => ?_⟩
    · obtain ⟨j, hj, rfl⟩ := List.getElem_of_mem hb
      rw [List.getElem_drop]
      exact hg _ (by simp at hj; omega) (by omega)
    · obtain ⟨j, hj, rfl⟩ := List.getElem_of_mem ha
      have hj2 : j < i ∧ j < t.length := by simp at hj; omega
      rw [List.getElem_take]
      rcases List.mem_cons.1 hb with rfl | hb
      · exact hl j hj2.2 hj2.1
      · obtain ⟨q, hq, rfl⟩ := List.getElem_of_mem hb
        rw [List.getElem_drop]
        exact hpw j (i + q) hj2.2 (by simp at hq; omega) (by omega)
  refine SrtT.ext (putT_srt h e) hsrt fun z => ?_
  rw [putT_mem h, List.mem_append, List.mem_cons]
  constructor
  · rintro (rfl | ⟨hz, hne⟩)
    · exact .inr (.inl rfl)
    · rw [← List.take_append_drop i t, List.mem_append] at hz
      rcases hz with hz | hz
      · exact .inl hz
      · exact .inr (.inr hz)
  · rintro (hz | rfl | hz)
    · obtain ⟨j, hj, rfl⟩ := List.getElem_of_mem hz
      have hj2 : j < i ∧ j < t.length := by simp at hj; omega
      rw [List.getElem_take]
      exact .inr ⟨List.getElem_mem _, ltE_ne (hl j hj2.2 hj2.1)⟩
    · exact .inl rfl
    · obtain ⟨j, hj, rfl⟩ := List.getElem_of_mem hz
      rw [List.getElem_drop]
      exact .inr ⟨List.getElem_mem _, (ltE_ne (hg (i + j) (by simp at hj; omega) (by omega))).symm⟩

/-- What the search asks of a place. -/
def notLess (t : List Ent) (p : Bytes) (i : Nat) : Bool := match t[i]? with | some x => !(ltP (els x.path) (els p)) | none => true
theorem putT_bs {t : List Ent} (h : SrtT t) (e : Ent) (hn : ∀ x ∈ t, x.path ≠ e.path) : putT t e = t.take (bs (notLess t e.path) 0 t.length) ++ e :: t.drop (bs (notLess t e.path) 0 t.length) := by
  have hle := bs_le (notLess t e.path) 0 t.length (Nat.zero_le _)
  have hsp := bs_spec (notLess t e.path) 0 t.length (Nat.zero_le _)
  generalize bs (notLess t e.path) 0 t.length = i at hle hsp
  have hpw := List.pairwise_iff_getElem.1 h
  refine putT_ins h e hle.2 (fun k hk hki => ?_) (fun k hk hik => ?_)
  · have h1 := hsp.1 (by omega)
    rw [notLess, List.getElem?_eq_getElem (by omega)] at h1
    have h2 : ltE (t[i - 1]'(by omega)) e = true := by simpa using h1
    by_cases hk2 : k = i - 1
    · subst hk2; exact h2
    · exact ltP_trans (hpw k (i - 1) hk (by omega) (by omega)) h2
  · have h1 := hsp.2 (by omega)
    rw [notLess, List.getElem?_eq_getElem (by omega)] at h1
    have h2 : ltE (t[i]'(by omega)) e = false := by simpa using h1
    have h3 : ltE e (t[i]'(by omega)) = true := by
      rcases ltE_total e (t[i]'(by omega)) with h3 | h3 | h3
      · exact h3
      · exact absurd h3.symm (hn _ (List.getElem_mem _))
      · rw [h2] at h3; exact absurd h3 (by simp)
    by_cases hk2 : k = i
    · subst hk2; exact h3
    · exact ltP_trans h3 (hpw i k (by omega) hk (by omega))
end Go.Proofs.YtcbmdghnlbieeaaGreatDoor
