/-
  Plain laws of paths: parts between slashes, their order. No program.
-/
import Derived.Test.YtcbmdghnlbieeaaGreatDoorAtP
namespace Go.Proofs.YtcbmdghnlbieeaaGreatDoor

def elsGo : Bytes → Bytes → List Bytes
  | p, [] => [p]
  | p, c :: s => if c == 47 then p :: elsGo [] s else elsGo (p ++ [c]) s
/-- The parts of a path. -/
def els (s : Bytes) : List Bytes := if s = [] then [] else elsGo [] s
def comp (s : Bytes) : Bool := decide (1 ≤ s.length) && decide (s.length ≤ 32) && s != [46] && s != [46, 46] && s.all keyChar
def pathErr (s : Bytes) : Int := if 200 < s.length then 6 else if 8 < (els s).length then 6 else if (els s).all comp then 0 else 7
/-- The path of parts. -/
def joinP : List Bytes → Bytes
  | [] => []
  | [p] => p
  | p :: q :: l => p ++ 47 :: joinP (q :: l)
def under (p d : Bytes) : Bool := decide (pathErr p = 0) && decide (pathErr d = 0) && (els d).isPrefixOf (els p)

/-- Parts in order. -/
def ltP : List Bytes → List Bytes → Bool
  | [], [] => false
  | [], _ :: _ => true
  | _ :: _, [] => false
  | x :: a, y :: b => Op.bytesLess x y || (x == y && ltP a b)

theorem ltP_irrefl : ∀ a, ltP a a = false
  | [] => rfl
  | x :: a => by rw [ltP, bl_irrefl, ltP_irrefl a]; simp
theorem ltP_trans : ∀ {a b c}, ltP a b = true → ltP b c = true → ltP a c = true
  | [], [], _, h, _ => absurd h (by simp [ltP])
  | [], _ :: _, [], _, h => absurd h (by simp [ltP])
  | [], _ :: _, _ :: _, _, _ => rfl
  | _ :: _, [], _, h, _ => absurd h (by simp [ltP])
  | _ :: _, _ :: _, [], _, h => absurd h (by simp [ltP])
  | x :: a, y :: b, z :: c, h, k => by
    rw [ltP, Bool.or_eq_true, Bool.and_eq_true] at h k ⊢
    rcases h with h | ⟨h, h'⟩ <;> rcases k with k | ⟨k, k'⟩
    · exact .inl (bl_trans h k)
    · have e : y = z := by simpa using k
      rw [← e]; exact .inl h
    · have e : x = y := by simpa using h
      rw [e]; exact .inl k
    · have e : x = y := by simpa using h
      rw [e]; exact .inr ⟨k, ltP_trans h' k'⟩
theorem ltP_total : ∀ a b, ltP a b = true ∨ a = b ∨ ltP b a = true
  | [], [] => .inr (.inl rfl)
  | [], _ :: _ => .inl rfl
  | _ :: _, [] => .inr (.inr rfl)
  | x :: a, y :: b => by
    rcases bl_total x y with h | h | h
    · exact .inl (by rw [ltP, h]; rfl)
    · subst h
      rcases ltP_total a b with k | k | k
      · exact .inl (by rw [ltP, k]; simp)
      · exact .inr (.inl (by rw [k]))
      · exact .inr (.inr (by rw [ltP, k]; simp))
    · exact .inr (.inr (by rw [ltP, h]; rfl))
theorem ltP_asymm {a b : List Bytes} (h : ltP a b = true) : ltP b a = false := by
  cases k : ltP b a with
  | false => rfl
  | true => have := ltP_trans h k; rw [ltP_irrefl] at this; exact absurd this (by simp)
theorem ltP_ne {a b : List Bytes} (h : ltP a b = true) : a ≠ b := fun e => by
  rw [e, ltP_irrefl] at h; exact absurd h (by simp)
/-- A prefix comes first. -/
theorem ltP_prefix : ∀ (a b : List Bytes), b ≠ [] → ltP a (a ++ b) = true
  | [], [], h => absurd rfl h
  | [], _ :: _, _ => rfl
  | x :: a, b, h => by rw [List.cons_append, ltP, ltP_prefix a b h]; simp

def cmpP (a b : Bytes) : Int := if ltP (els a) (els b) then -1 else if ltP (els b) (els a) then 1 else 0

theorem elsGo_ne : ∀ (s p : Bytes), elsGo p s ≠ []
  | [], p => by simp [elsGo]
  | c :: s, p => by
    rw [elsGo]
    by_cases h : (c == 47) = true
    · rw [if_pos h]; simp
    · rw [if_neg h]; exact elsGo_ne s _
theorem els_nil {s : Bytes} : els s = [] ↔ s = [] := by
  unfold els
  by_cases h : s = []
  · rw [if_pos h]; simp [h]
  · rw [if_neg h]; simp [h, elsGo_ne]
theorem joinP_cons (p : Bytes) {l : List Bytes} (h : l ≠ []) : joinP (p :: l) = p ++ 47 :: joinP l := by
  cases l with
  | nil => exact absurd rfl h
  | cons q l => rfl
theorem joinP_elsGo : ∀ (s p : Bytes), joinP (elsGo p s) = p ++ s
  | [], p => by simp [elsGo, joinP]
  | c :: s, p => by
    rw [elsGo]
    by_cases h : (c == 47) = true
    · rw [if_pos h, joinP_cons _ (elsGo_ne s []), joinP_elsGo s []]
      have : c = 47 := by simpa using h
      simp [this]
    · rw [if_neg h, joinP_elsGo s]; simp
/-- A path is put together again of its parts. -/
theorem joinP_els (s : Bytes) : joinP (els s) = s := by
  unfold els
  by_cases h : s = []
  · rw [if_pos h, h]; rfl
  · rw [if_neg h, joinP_elsGo]; simp
theorem els_inj {a b : Bytes} (h : els a = els b) : a = b := by rw [← joinP_els a, h, joinP_els]
theorem elsGo_part : ∀ (s p r : Bytes), (∀ c ∈ s, c ≠ 47) → elsGo p (s ++ r) = elsGo (p ++ s) r
  | [], p, r, _ => by simp
  | c :: s, p, r, h => by
    have hc : ¬ (c == 47) = true := by simpa using h c (List.mem_cons_self ..)
    rw [List.cons_append, elsGo, if_neg hc, elsGo_part s _ _ fun x hx => h x (List.mem_cons_of_mem _ hx)]
    simp
theorem elsGo_joinP : ∀ (l : List Bytes), l ≠ [] → (∀ p ∈ l, ∀ c ∈ p, c ≠ 47) → elsGo [] (joinP l) = l
  | [], h, _ => absurd rfl h
  | [p], _, h => by
    have := elsGo_part p [] [] (h p (by simp))
    rw [List.append_nil] at this
    rw [joinP, this]; simp [elsGo]
  | p :: q :: l, _, h => by
    rw [joinP_cons p (by simp), elsGo_part p [] _ (h p (by simp)), List.nil_append, elsGo, if_pos (by simp), elsGo_joinP (q :: l) (by simp) fun x hx => h x (List.mem_cons_of_mem _ hx)]
/-- Parts without slashes are the parts of their path (but for the one empty part). -/
theorem els_joinP {l : List Bytes} (h : ∀ p ∈ l, ∀ c ∈ p, c ≠ 47) (hn : joinP l ≠ []) : els (joinP l) = l := by
  have hl : l ≠ [] := fun e => hn (by rw [e]; rfl)
  rw [els, if_neg hn, elsGo_joinP l hl h]

theorem comp_noslash {p : Bytes} (h : comp p = true) : ∀ c ∈ p, c ≠ 47 := by
  intro c hc e
  simp only [comp, Bool.and_eq_true, List.all_eq_true] at h
  have := h.2 c hc
  rw [e] at this
  exact absurd this (by decide)
theorem comp_ne {p : Bytes} (h : comp p = true) : p ≠ [] := by
  intro e
  rw [e] at h
  exact absurd h (by decide)
theorem pathErr_ok {s : Bytes} (h : pathErr s = 0) : s.length ≤ 200 ∧ (els s).length ≤ 8 ∧ ∀ p ∈ els s, comp p = true := by
  unfold pathErr at h
  by_cases h1 : 200 < s.length
  · rw [if_pos h1] at h; omega
  · rw [if_neg h1] at h
    by_cases h2 : 8 < (els s).length
    · rw [if_pos h2] at h; omega
    · rw [if_neg h2] at h
      by_cases h3 : (els s).all comp = true
      · exact ⟨by omega, by omega, by simpa using h3⟩
      · rw [if_neg h3] at h; omega
end Go.Proofs.YtcbmdghnlbieeaaGreatDoor
