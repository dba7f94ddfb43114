/-
  A region that draws its order, walked by an invariant on what has come up: each operation is run once, whatever came before it. Over any program.
-/
import Derived.Test.YtmapjaihkmjmmaaDoorBase
namespace Go.Proofs.YtmapjaihkmjmmaaDoor
open Go.RowKit

section
variable {P : Program} {ops : Array Oper} {md : Region.Mode} {Q : Exit → Act → World → Prop}

/-- How many operations have not come up. -/
def leftN (s : Array Bool) : Nat := s.toList.countP (!·)
theorem countP_set : ∀ (l : List Bool) (i : Nat), l[i]? = some false → (l.set i true).countP (!·) + 1 = l.countP (!·)
  | [], _, h => absurd h (by simp)
  | b :: l, 0, h => by
    simp at h
    subst h
    simp
  | b :: l, i + 1, h => by
    have := countP_set l i (by simpa using h)
    simp only [List.set_cons_succ, List.countP_cons]
    omega
theorem getD_false {s : Array Bool} {i : Nat} (h : s.getD i true = false) : s.toList[i]? = some false := by
  rw [Array.getElem?_toList]
  rw [Array.getD_eq_getD_getElem?] at h
  cases hs : s[i]? with
  | none => rw [hs] at h; simp at h
  | some b => rw [hs] at h; simpa using h
theorem leftN_set {s : Array Bool} {i : Nat} (h : s.getD i true = false) : leftN (s.setIfInBounds i true) + 1 = leftN s := by
  unfold leftN
  rw [Array.toList_setIfInBounds]
  exact countP_set _ _ (getD_false h)
theorem leftN_pos {s : Array Bool} {i : Nat} (h : s.getD i true = false) : 0 < leftN s := by have := leftN_set h; omega

theorem wpAny_inv {J : Array Bool → Act → World → Prop} (hstep : ∀ s a w i, J s a w → i ∈ Region.ready md ops s → wpOp P ops Q i (fun a' w' => J (s.setIfInBounds i true) a' w') a w)
    (hend : ∀ s a w, J s a w → Region.ready md ops s = [] → Q .normal a w) : ∀ (f : Nat) (s : Array Bool) (a : Act) (w : World), leftN s ≤ f → J s a w → wpAny P md ops Q f s a w := by
  intro f
  induction f with
  | zero =>
    intro s a w hf hJ
    have hr : Region.ready md ops s = [] := by
      cases h : Region.ready md ops s with
      | nil => rfl
      | cons j l =>
        have := leftN_pos (mem_ready.1 (show j ∈ Region.ready md ops s by rw [h]; exact List.mem_cons_self ..)).1
        omega
    exact ⟨hr, hend s a w hJ hr⟩
  | succ f ih =>
    intro s a w hf hJ
    refine ⟨hend s a w hJ, fun i hi => wpOp_mono (fun a' w' h => ih _ _ _ ?_ h) (hstep s a w i hJ hi)⟩
    have := leftN_set (mem_ready.1 hi).1
    omega

theorem leftN_start (n : Nat) : leftN (Array.replicate n false) = n := by
  simp [leftN, List.countP_replicate]

theorem wp_region_inv {id : Nat} {a : Act} {w : World} (J : Array Bool → Act → World → Prop) (hm : P.follows .mixedOrders = true) (h0 : J (Array.replicate ops.size false) a { w with drawn := w.drawn + 1 })
    (hstep : ∀ s a w i, J s a w → i ∈ Region.ready .any ops s → wpOp P ops Q i (fun a' w' => J (s.setIfInBounds i true) a' w') a w)
    (hend : ∀ s a w, J s a w → Region.ready .any ops s = [] → Q .normal a w) : (Code.region id ops true).wp P Q a w :=
  wp_region_any hm (wpAny_inv hstep hend _ _ _ _ (by rw [leftN_start]; exact Nat.le_refl _) h0)

/-! ### The activation as a function of what has come up -/

/-- What operations of the list have left, those of s alone. -/
def fillA : List (Option Tmp × Value) → Nat → Array Bool → Act → Act
  | [], _, _, a => a
  | (d, v) :: l, k, s, a => fillA l (k + 1) s (if s.getD k false then a.put d v else a)

theorem put_comm' (a : Act) {d e : Option Tmp} (u v : Value) (h : ∀ t, d = some t → e ≠ some t) : (a.put d u).put e v = (a.put e v).put d u := by
  cases d with
  | none => rfl
  | some d =>
    cases e with
    | none => rfl
    | some e =>
      have hne : d ≠ e := fun h' => h d rfl (by rw [h'])
      simp only [Act.put]
      rw [Array.setIfInBounds_comm _ _ hne]

def ApartF (l : List (Option Tmp × Value)) : Prop := l.Pairwise fun p q => ∀ t, p.1 = some t → q.1 ≠ some t

theorem fill_put : ∀ (l : List (Option Tmp × Value)) (k : Nat) (s : Array Bool) (a : Act) (d : Option Tmp) (v : Value), (∀ p ∈ l, ∀ t, d = some t → p.1 ≠ some t) → fillA l k s (a.put d v) = (fillA l k s a).put d v
  | [], _, _, _, _, _, _ => rfl
  | (e, u) :: l, k, s, a, d, v, h => by
    rw [fillA, fillA]
    split
    · rw [put_comm' a v u (h (e, u) (List.mem_cons_self ..)), fill_put l _ _ _ _ _ fun p hp => h p (List.mem_cons_of_mem _ hp)]
    · rw [fill_put l _ _ _ _ _ fun p hp => h p (List.mem_cons_of_mem _ hp)]

theorem fill_other : ∀ (l : List (Option Tmp × Value)) (k : Nat) (s : Array Bool) (a : Act) (i : Nat), i < k → fillA l k (s.setIfInBounds i true) a = fillA l k s a
  | [], _, _, _, _, _ => rfl
  | (e, u) :: l, k, s, a, i, h => by
    rw [fillA, fillA, getD_set_ne false (by omega), fill_other l (k + 1) s _ i (by omega)]

/-- One operation more has come up. -/
theorem fill_set : ∀ (l : List (Option Tmp × Value)) (k i : Nat) (s : Array Bool) (a : Act) (d : Option Tmp) (v : Value), ApartF l → l[i]? = some (d, v) → s.getD (k + i) true = false → (fillA l k s a).put d v = fillA l k (s.setIfInBounds (k + i) true) a
  | [], _, _, _, _, _, _, _, h, _ => absurd h (by simp)
  | (e, u) :: l, k, 0, s, a, d, v, hp, h, hs => by
    simp at h
    obtain ⟨rfl, rfl⟩ := h
    have hf : s.getD k false = false := by
      rw [Nat.add_zero] at hs
      rw [Array.getD_eq_getD_getElem?] at hs ⊢
      cases hk : s[k]? with
      | none => rw [hk] at hs; simp at hs
      | some b => rw [hk] at hs; simpa using hs
    have ht : (s.setIfInBounds k true).getD k false = true := by
      have hlt : k < s.size := by
        rw [Nat.add_zero] at hs
        have := getD_false hs
        have := (List.getElem?_eq_some_iff.1 this).1
        simpa using this
      simp [Array.getD_eq_getD_getElem?, hlt]
    simp only [Nat.add_zero]
    rw [fillA, fillA, ht, hf]
    simp only [Bool.false_eq_true, if_false, if_true]
    rw [fill_other l (k + 1) s _ k (by omega), fill_put]
    exact fun p hm t => (List.pairwise_cons.1 hp).1 p hm t
  | (e, u) :: l, k, i + 1, s, a, d, v, hp, h, hs => by
    rw [fillA, fillA, getD_set_ne false (by omega), show k + (i + 1) = k + 1 + i by omega]
    exact fill_set l (k + 1) i s _ d v (List.pairwise_cons.1 hp).2 (by simpa using h) (by rw [← hs]; congr 1; omega)

theorem put_eval_ne (a : Act) {d : Option Tmp} {t : Tmp} (v : Value) (h : d ≠ some t) : (a.put d v).eval (.tmp t) = a.eval (.tmp t) :=
  Act.eval_put fun d' hd e => h (by rw [hd]; injection e with e; rw [e])
theorem put_size (a : Act) (d : Option Tmp) (v : Value) : (a.put d v).tmps.size = a.tmps.size := by cases d <;> simp [Act.put]

theorem fill_eval_ne : ∀ (l : List (Option Tmp × Value)) (k : Nat) (s : Array Bool) (a : Act) (t : Tmp), (∀ p ∈ l, p.1 ≠ some t) → (fillA l k s a).eval (.tmp t) = a.eval (.tmp t)
  | [], _, _, _, _, _ => rfl
  | (e, u) :: l, k, s, a, t, h => by
    rw [fillA, fill_eval_ne l _ _ _ _ fun p hp => h p (List.mem_cons_of_mem _ hp)]
    split
    · exact put_eval_ne a u (h (e, u) (List.mem_cons_self ..))
    · rfl
/-- What an operation that has come up left. -/
theorem fill_eval : ∀ (l : List (Option Tmp × Value)) (k i : Nat) (s : Array Bool) (a : Act) (t : Tmp) (v : Value), ApartF l → l[i]? = some (some t, v) → s.getD (k + i) false = true → t < a.tmps.size → (fillA l k s a).eval (.tmp t) = v
  | [], _, _, _, _, _, _, _, h, _, _ => absurd h (by simp)
  | (e, u) :: l, k, 0, s, a, t, v, hp, h, hs, ht => by
    simp at h
    obtain ⟨rfl, rfl⟩ := h
    rw [Nat.add_zero] at hs
    rw [fillA, hs, if_pos rfl, fill_eval_ne l _ _ _ _ fun p hm e => (List.pairwise_cons.1 hp).1 p hm t rfl e]
    simp [Act.put, Act.eval, Array.getD_eq_getD_getElem?, ht]
  | (e, u) :: l, k, i + 1, s, a, t, v, hp, h, hs, ht => by
    rw [fillA]
    refine fill_eval l (k + 1) i s _ t v (List.pairwise_cons.1 hp).2 (by simpa using h) (by rw [← hs]; congr 1; omega) ?_
    split
    · rw [put_size]; exact ht
    · exact ht

/-- The values of operations that have not come up are free. -/
theorem fill_congr : ∀ (l m : List (Option Tmp × Value)) (k : Nat) (s : Array Bool) (a : Act), l.length = m.length → (∀ i, s.getD (k + i) false = true → l[i]? = m[i]?) → fillA l k s a = fillA m k s a
  | [], [], _, _, _, _, _ => rfl
  | [], _ :: _, _, _, _, h, _ => absurd h (by simp)
  | _ :: _, [], _, _, _, h, _ => absurd h (by simp)
  | (e, u) :: l, (f, v) :: m, k, s, a, hl, h => by
    rw [fillA, fillA]
    have hrest : ∀ a', fillA l (k + 1) s a' = fillA m (k + 1) s a' := fun a' => fill_congr l m (k + 1) s a' (by simpa using hl) fun i hi => by
      have := h (i + 1) (by rw [← hi]; congr 1; omega)
      simpa using this
    cases hk : s.getD k false
    · simp only [Bool.false_eq_true, if_false]; exact hrest a
    · have := h 0 hk
      simp at this
      obtain ⟨rfl, rfl⟩ := this
      simp only [if_true]; exact hrest _
theorem fill_none (l : List (Option Tmp × Value)) (a : Act) : ∀ (k n : Nat), fillA l k (Array.replicate n false) a = a := by
  induction l generalizing a with
  | nil => intro k n; rfl
  | cons p l ih =>
    intro k n
    obtain ⟨d, v⟩ := p
    have : (Array.replicate n false).getD k false = false := by
      rw [Array.getD_eq_getD_getElem?]
      rw [Array.getElem?_replicate]
      split <;> rfl
    rw [fillA, this]
    simp only [Bool.false_eq_true, if_false]
    exact ih a _ _
end
end Go.Proofs.YtmapjaihkmjmmaaDoor
