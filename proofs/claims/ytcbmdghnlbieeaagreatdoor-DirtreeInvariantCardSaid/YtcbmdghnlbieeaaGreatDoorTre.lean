/-
  Plain laws of trees of entries. No program.
-/
import Derived.Test.YtcbmdghnlbieeaaGreatDoorPth
namespace Go.Proofs.YtcbmdghnlbieeaaGreatDoor

structure Xt where
  s : Int
  o : Int
  n : Int
deriving DecidableEq
structure Ent where
  kind : Int
  path : Bytes
  attrs : List At
  target : Bytes
  size : Int
  digest : Bytes
  exts : List Xt
deriving DecidableEq

def digits (s : Bytes) : Int := s.foldl (fun n c => 10 * n + ((c.toNat : Int) - 48)) 0
def dateOk (s : Bytes) : Bool := decide (1 ≤ s.length) && decide (s.length ≤ 10) && !(decide (1 < s.length) && s.head? == some 48) && s.all (fun c => decide (48 ≤ c) && decide (c ≤ 57)) && decide (digits s ≤ 1000000000)
def targetOk (e : Ent) : Bool := if e.kind = 3 then decide (1 ≤ e.target.length) && decide (e.target.length ≤ 200) else if e.kind = 5 then dateOk e.target else e.target.isEmpty
def xtBad (x : Xt) : Bool := decide (x.s < 0) || decide (255 < x.s) || decide (x.o < 0) || decide (2147483647 < x.o) || decide (x.n < 1) || decide (65536 < x.n) || (x.s == 0 && x.o != 0)
def xtsErr (file : Bool) : List Xt → Int
  | [] => 0
  | x :: l => if file = false then 1 else if xtBad x then 2 else xtsErr file l
def xtSum (l : List Xt) : Int := (l.map Xt.n).sum
/-- Why an entry is invalid. -/
def entErr (e : Ent) : Int :=
  if e.kind < 1 ∨ 6 < e.kind then 10
  else if pathErr e.path ≠ 0 then pathErr e.path
  else if e.path = [] ∧ e.kind < 5 then 1
  else if chk e.attrs ≠ 0 then chk e.attrs
  else if (e.attrs ≠ [] ∧ 3 < e.kind) ∨ targetOk e = false then 1
  else if e.size < 0 ∨ 65536 < e.size ∨ (e.kind ≠ 1 ∧ e.size ≠ 0) then 2
  else if (e.kind = 1 ∧ e.digest.length ≠ 32) ∨ (e.kind ≠ 1 ∧ e.digest ≠ []) then 1
  else if xtsErr (e.kind == 1) e.exts ≠ 0 then xtsErr (e.kind == 1) e.exts
  else if xtSum e.exts ≠ e.size then 1 else 0

def getT (t : List Ent) (p : Bytes) : Option Ent := t.find? fun x => x.path == p
def dirErr (t : List Ent) (p : Bytes) : Int := if p = [] then 0 else match getT t p with | none => 9 | some x => if x.kind ≠ 2 then 10 else 0
def upP (p : Bytes) : Bytes := joinP (els p).dropLast
/-- Why a tree is invalid, behind an entry (if any). -/
def chkTFrom (t : List Ent) : Option Ent → List Ent → Int
  | _, [] => 0
  | q, x :: l => if entErr x ≠ 0 then entErr x else if x.kind ≠ 1 ∧ x.kind ≠ 2 ∧ x.kind ≠ 3 then 10 else if (q.any fun y => !(ltP (els y.path) (els x.path))) then 14 else if dirErr t (upP x.path) ≠ 0 then dirErr t (upP x.path) else chkTFrom t (some x) l
def chkT (t : List Ent) : Int := chkTFrom t none t

def SrtT (t : List Ent) : Prop := t.Pairwise fun x y => ltP (els x.path) (els y.path) = true
/-- A valid tree. -/
structure OkT (t : List Ent) : Prop where
  ent : ∀ x ∈ t, entErr x = 0
  kind : ∀ x ∈ t, x.kind = 1 ∨ x.kind = 2 ∨ x.kind = 3
  srt : SrtT t
  up : ∀ x ∈ t, dirErr t (upP x.path) = 0

theorem chkTFrom_eq (t : List Ent) (l : List Ent) : ∀ q : Option Ent, chkTFrom t q l = 0 ↔ (∀ x ∈ l, entErr x = 0 ∧ (x.kind = 1 ∨ x.kind = 2 ∨ x.kind = 3) ∧ dirErr t (upP x.path) = 0) ∧ (∀ y, q = some y → ∀ x ∈ l, ltP (els y.path) (els x.path) = true) ∧ SrtT l := by
  induction l with
  | nil => intro q; simp [chkTFrom, SrtT]
  | cons x l ih =>
    intro q
    rw [chkTFrom]
    by_cases h0 : entErr x = 0
    case neg =>
      rw [if_pos h0]
      exact ⟨fun h => absurd h h0, fun h => absurd (h.1 x (List.mem_cons_self ..)).1 h0⟩
    rw [if_neg (by omega)]
    by_cases h1 : x.kind = 1 ∨ x.kind = 2 ∨ x.kind = 3
    case neg =>
      rw [if_pos (by omega)]
      exact ⟨fun h => absurd h (by decide), fun h => absurd (h.1 x (List.mem_cons_self ..)).2.1 h1⟩
    rw [if_neg (by omega)]
    by_cases h2 : (q.any fun y => !(ltP (els y.path) (els x.path))) = true
    · rw [if_pos h2]
      refine ⟨fun h => absurd h (by decide), fun h => ?_⟩
      cases q with
      | none => simp at h2
      | some y =>
        have := h.2.1 y rfl x (List.mem_cons_self ..)
        simp [this] at h2
    rw [if_neg h2]
    have hq : ∀ y, q = some y → ltP (els y.path) (els x.path) = true := by
      intro y hy
      subst hy
      simpa using h2
    by_cases h3 : dirErr t (upP x.path) = 0
    case neg =>
      rw [if_pos h3]
      exact ⟨fun h => absurd h h3, fun h => absurd (h.1 x (List.mem_cons_self ..)).2.2 h3⟩
    rw [if_neg (by omega), ih]
    constructor
    · rintro ⟨a1, a2, a3⟩
      refine ⟨?_, ?_, List.pairwise_cons.2 ⟨fun r hr => a2 x rfl r hr, a3⟩⟩
      · intro r hr
        rcases List.mem_cons.1 hr with rfl | hr
        · exact ⟨h0, h1, h3⟩
        · exact a1 r hr
      · intro y hy r hr
        rcases List.mem_cons.1 hr with rfl | hr
        · exact hq y hy
        · exact ltP_trans (hq y hy) (a2 x rfl r hr)
    · rintro ⟨a1, _, a3⟩
      obtain ⟨b1, b2⟩ := List.pairwise_cons.1 a3
      exact ⟨fun r hr => a1 r (List.mem_cons_of_mem _ hr), fun y hy r hr => by cases hy; exact b1 r hr, b2⟩
theorem chkT_eq (t : List Ent) : chkT t = 0 ↔ OkT t := by
  unfold chkT
  rw [chkTFrom_eq]
  constructor
  · rintro ⟨a1, _, a3⟩
    exact ⟨fun x hx => (a1 x hx).1, fun x hx => (a1 x hx).2.1, a3, fun x hx => (a1 x hx).2.2⟩
  · rintro ⟨b1, b2, b3, b4⟩
    exact ⟨fun x hx => ⟨b1 x hx, b2 x hx, b4 x hx⟩, by simp, b3⟩

theorem SrtT.key {t : List Ent} (h : SrtT t) {x y : Ent} (hx : x ∈ t) (hy : y ∈ t) (e : x.path = y.path) : x = y := by
  induction t with
  | nil => cases hx
  | cons z l ih =>
    obtain ⟨h1, h2⟩ := List.pairwise_cons.1 h
    rcases List.mem_cons.1 hx with hx | hx <;> rcases List.mem_cons.1 hy with hy | hy
    · rw [hx, hy]
    · exact absurd (by rw [← hx, e]) (ltP_ne (h1 y hy))
    · exact absurd (by rw [← hy, e]) (ltP_ne (h1 x hx))
    · exact ih h2 hx hy
theorem SrtT.ext : ∀ {A B : List Ent}, SrtT A → SrtT B → (∀ x, x ∈ A ↔ x ∈ B) → A = B
  | [], [], _, _, _ => rfl
  | [], b :: B, _, _, h => absurd ((h b).2 (List.mem_cons_self ..)) (by simp)
  | a :: A, [], _, _, h => absurd ((h a).1 (List.mem_cons_self ..)) (by simp)
  | a :: A, b :: B, hA, hB, h => by
    obtain ⟨a1, a2⟩ := List.pairwise_cons.1 hA
    obtain ⟨b1, b2⟩ := List.pairwise_cons.1 hB
    have e : a = b := by
      rcases List.mem_cons.1 ((h a).1 (List.mem_cons_self ..)) with e | hab
      · exact e
      · rcases List.mem_cons.1 ((h b).2 (List.mem_cons_self ..)) with e | hba
        · exact e.symm
        · have k := ltP_asymm (a1 b hba)
          rw [b1 a hab] at k
          exact absurd k (by simp)
    subst e
    rw [SrtT.ext a2 b2 fun x => ?_]
    have hx := h x
    rw [List.mem_cons, List.mem_cons] at hx
    constructor
    · intro hm
      rcases hx.1 (.inr hm) with e | hm'
      · subst e; exact absurd rfl (ltP_ne (a1 x hm))
      · exact hm'
    · intro hm
      rcases hx.2 (.inr hm) with e | hm'
      · subst e; exact absurd rfl (ltP_ne (b1 x hm))
      · exact hm'
theorem getT_mem {t : List Ent} (h : SrtT t) {x : Ent} (hx : x ∈ t) : getT t x.path = some x := by
  unfold getT
  cases hf : t.find? (fun y => y.path == x.path) with
  | none => have := List.find?_eq_none.1 hf x hx; simp at this
  | some y =>
    have h1 := List.find?_some hf
    rw [h.key (List.mem_of_find?_eq_some hf) hx (by simpa using h1)]
theorem getT_some {t : List Ent} {p : Bytes} {x : Ent} (h : getT t p = some x) : x ∈ t ∧ x.path = p := ⟨List.mem_of_find?_eq_some h, by have := List.find?_some h; simpa using this⟩
theorem getT_none {t : List Ent} {p : Bytes} (h : ∀ x ∈ t, x.path ≠ p) : getT t p = none := List.find?_eq_none.2 fun x hx => by simpa using h x hx
end Go.Proofs.YtcbmdghnlbieeaaGreatDoor
