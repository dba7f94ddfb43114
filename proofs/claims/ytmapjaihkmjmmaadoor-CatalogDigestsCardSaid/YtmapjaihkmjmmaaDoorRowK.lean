/-
  copy between rows of elements of several cells; the run equations that the walks of slices.Insert take. Over any program.
-/
import Derived.Test.YtmapjaihkmjmmaaDoorOwn
import Derived.Shelf.Spec.SlicesInsert
import Derived.Lib.AppendZerosOnto
namespace Go.Proofs.YtmapjaihkmjmmaaDoor
open Go.RowKit

theorem run_copy_k {P : Program} (w : World) (dT sT ty elem : TypeId) (size g o dLen dCap : Nat) (a : Addr) (sLen sCap : Nat) (cur : Array Value) (t : TypeId) (cs : List Value)
    (hu : P.underlying dT = some (.slice elem)) (hs : (P.info? elem).map (·.size) = some size)
    (hg : w.heap[g]? = some (.cells cur t (0, 0))) (hn : cs.length = Nat.min sLen dLen * size)
    (hsrc : ∀ j v, cs[j]? = some v → w.cell? (a.add j) = some v) (hfit : o + cs.length ≤ cur.size) (h1 : ∀ v ∈ cs, v.oneCell' = true) :
    (Builtin.copy_ #[dT, sT] ty #[.slice (some ⟨g, o, none⟩) dLen dCap, .slice (some a) sLen sCap]).run P w =
      .ok (goInt (Nat.min sLen dLen)) (w.setRow g (cur.toList.take o ++ cs ++ cur.toList.drop (o + cs.length)).toArray) := by
  have hst := run_storeCells_at P g o t cs 0 cur w hg (by simpa using hfit) h1
  cases hq : P.info? elem with
  | none => simp [hq] at hs
  | some i =>
    have hi : i.size = size := by simpa [hq] using hs
    have hf := run_firstCells_some (P := P) w i.size (Nat.min sLen dLen) a sLen sCap cs (by rw [hi]; exact hn) hsrc
    simp only [Nat.min_def] at hf ⊢
    simp [Builtin.copy_, run_underlying hu, Builtin.lenOf, sizeOf, typeInfo, hq, Nat.min_def, hf, hst]

/-- cs laid over a row from place o on. -/
def over (cur : Array Value) (o : Nat) (cs : List Value) : Array Value := (cur.toList.take o ++ cs ++ cur.toList.drop (o + cs.length)).toArray
theorem over_size (cur : Array Value) (o : Nat) (cs : List Value) (h : o + cs.length ≤ cur.size) : (over cur o cs).size = cur.size := by
  simp [over]; omega
theorem over_take (cur : Array Value) (o : Nat) (cs : List Value) (h : o ≤ cur.size) : (over cur o cs).toList.take (o + cs.length) = cur.toList.take o ++ cs := by
  simp only [over]
  rw [List.take_append_of_le_length (by simp; omega)]
  rw [List.take_of_length_le (by simp; omega)]

theorem insert_row (cur : Array Value) (xs news : List Value) (p k : Nat) (hp : p ≤ xs.length) (hx : cur.toList.take xs.length = xs) (hk : news.length = k) (hsz : xs.length + k ≤ cur.size) :
    (over (over cur (p + k) (xs.drop p)) p news).toList.take (xs.length + k) = xs.take p ++ news ++ xs.drop p := by
  have hcl : cur.toList.length = cur.size := by simp
  have h1 : (over cur (p + k) (xs.drop p)).toList = cur.toList.take (p + k) ++ xs.drop p ++ cur.toList.drop (p + k + (xs.drop p).length) := rfl
  have h2 : ∀ c : Array Value, (over c p news).toList = c.toList.take p ++ news ++ c.toList.drop (p + k) := fun c => by simp [over, hk]
  rw [h2, h1]
  have e1 : (cur.toList.take (p + k) ++ xs.drop p ++ cur.toList.drop (p + k + (xs.drop p).length)).take p = xs.take p := by
    rw [List.append_assoc, List.take_append_of_le_length (by simp; omega), List.take_take, Nat.min_eq_left (by omega)]
    conv => rhs; rw [← hx]
    rw [List.take_take, Nat.min_eq_left hp]
  have e2 : (cur.toList.take (p + k) ++ xs.drop p ++ cur.toList.drop (p + k + (xs.drop p).length)).drop (p + k) = xs.drop p ++ cur.toList.drop (p + k + (xs.drop p).length) := by
    rw [List.append_assoc, List.drop_append_of_le_length (by simp; omega)]
    rw [List.drop_eq_nil_of_le (by simp; omega), List.nil_append]
  rw [e1, e2, ← List.append_assoc, List.take_append_of_le_length (by simp; omega), List.take_of_length_le (by simp; omega)]

theorem insert_row2 (cur : Array Value) (xs news : List Value) (p k : Nat) (hp : p ≤ xs.length) (hx : cur.toList.take p = xs.take p) (hk : news.length = k) (hsz : xs.length + k ≤ cur.size) :
    (over (over cur p news) (p + k) (xs.drop p)).toList.take (xs.length + k) = xs.take p ++ news ++ xs.drop p := by
  have h1 := over_take cur p news (by omega)
  rw [hk, hx] at h1
  have h2 := over_take (over cur p news) (p + k) (xs.drop p) (by rw [over_size _ _ _ (by omega)]; omega)
  rw [h1, List.length_drop, show p + k + (xs.length - p) = xs.length + k by omega] at h2
  exact h2

theorem grown_setRow {w : World} {g : Nat} {cur : Array Value} : w.grownBy (w.setRow g cur) (some g) :=
  ⟨rfl, rfl, rfl, by simp, fun k _ hk => setRow_other w g k _ (fun e => hk (by rw [e]))⟩
theorem grown_trans' {a b c : World} {row : Option Nat} (h : a.grownBy b row) (k : b.grownBy c row) : a.grownBy c row :=
  ⟨k.os.trans h.os, k.tape.trans h.tape, k.output.trans h.output, Nat.le_trans h.size k.size, fun j hj hne => (k.block j (Nat.lt_of_lt_of_le hj h.size) hne).trans (h.block j hj hne)⟩
end Go.Proofs.YtmapjaihkmjmmaaDoor
