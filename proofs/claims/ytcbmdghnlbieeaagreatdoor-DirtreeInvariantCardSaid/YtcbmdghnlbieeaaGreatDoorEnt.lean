/-
  Entries as Go values: seven cells, two of them slices. Plain definitions over any program.
-/
import Derived.Test.YtcbmdghnlbieeaaGreatDoorTre
import Derived.Test.YtcbmdghnlbieeaaGreatDoorOwn
namespace Go.Proofs.YtcbmdghnlbieeaaGreatDoor
open Go.RowKit

def At.Wf (x : At) : Prop := x.k.length ≤ 9223372036854775807 ∧ x.v.length ≤ 9223372036854775807
abbrev At.val (x : At) : Value := .agg #[S x.k, S x.v]
def tAt : Ty At := Ty.flat 2 (fun x => [S x.k, S x.v]) (fun _ => rfl) (fun _ u h => by simp at h; rcases h with rfl | rfl <;> rfl)

/-- Element i of a slice of attributes, in the walk's spelling. -/
theorem atAt {I : IH} {v : Value} {l : List At} {w : World} (h : RdS tAt I v l) (hw : Ok I w) (i : Nat) (hi : i < l.length) : ∃ x b off cap, l[i] = x ∧ v = .slice (some ⟨b, off, none⟩) l.length cap ∧
    w.cell? ⟨b, off + i * 2, none⟩ = some (S x.k) ∧ w.cell? ⟨b, off + i * 2 + 1, none⟩ = some (S x.v) := by
  obtain ⟨b, off, cap, cs, hv, hcs, hc⟩ := h.at_ hw hi
  have hcs' : cs = [S l[i].k, S l[i].v] := hcs
  subst hcs'
  exact ⟨_, b, off, cap, rfl, hv, hc 0 _ rfl, hc 1 _ rfl⟩

def tXt : Ty Xt := Ty.flat 3 (fun x => [.int .i64 x.s, .int .i64 x.o, .int .i64 x.n]) (fun _ => rfl) (fun _ u h => by simp at h; rcases h with rfl | rfl | rfl <;> rfl)
theorem xtAt {I : IH} {v : Value} {l : List Xt} {w : World} (h : RdS tXt I v l) (hw : Ok I w) (i : Nat) (hi : i < l.length) : ∃ x b off cap, l[i] = x ∧ v = .slice (some ⟨b, off, none⟩) l.length cap ∧
    w.cell? ⟨b, off + i * 3, none⟩ = some (.int .i64 x.s) ∧ w.cell? ⟨b, off + i * 3 + 1, none⟩ = some (.int .i64 x.o) ∧ w.cell? ⟨b, off + i * 3 + 2, none⟩ = some (.int .i64 x.n) := by
  obtain ⟨b, off, cap, cs, hv, hcs, hc⟩ := h.at_ hw hi
  have hcs' : cs = [.int .i64 l[i].s, .int .i64 l[i].o, .int .i64 l[i].n] := hcs
  subst hcs'
  exact ⟨_, b, off, cap, rfl, hv, hc 0 _ rfl, hc 1 _ rfl, hc 2 _ rfl⟩

def Xt.Wf (x : Xt) : Prop := (-9223372036854775808 ≤ x.s ∧ x.s ≤ 9223372036854775807) ∧ (-9223372036854775808 ≤ x.o ∧ x.o ≤ 9223372036854775807) ∧ (-9223372036854775808 ≤ x.n ∧ x.n ≤ 9223372036854775807)
structure Ent.Wf (e : Ent) : Prop where
  k0 : -9223372036854775808 ≤ e.kind
  k1 : e.kind ≤ 9223372036854775807
  path : e.path.length ≤ 9223372036854775807
  attrs : ∀ x ∈ e.attrs, x.Wf
  target : e.target.length ≤ 9223372036854775807
  s0 : -9223372036854775808 ≤ e.size
  s1 : e.size ≤ 9223372036854775807
  digest : e.digest.length ≤ 9223372036854775807
  exts : ∀ x ∈ e.exts, x.Wf

/-- The cells of an entry. -/
abbrev entCs (e : Ent) (va vx : Value) : List Value := [.int .i64 e.kind, S e.path, va, S e.target, .int .i64 e.size, S e.digest, vx]
abbrev entV (e : Ent) (va vx : Value) : Value := .agg #[.int .i64 e.kind, S e.path, va, S e.target, .int .i64 e.size, S e.digest, vx]

def tEnt : Ty Ent where
  size := 7
  rd := fun I cs e => ∃ va vx, cs = entCs e va vx ∧ RdS tAt I va e.attrs ∧ RdS tXt I vx e.exts
  len := fun ⟨_, _, h, _⟩ => by rw [h]; rfl
  one := fun ⟨va, vx, h, h1, h2⟩ u hu => by
    rw [h] at hu
    simp at hu
    rcases hu with rfl | rfl | rfl | rfl | rfl | rfl | rfl <;> first | rfl | exact h1.one | exact h2.one
  mono := fun hI ⟨va, vx, h, h1, h2⟩ => ⟨va, vx, h, h1.mono hI, h2.mono hI⟩

/-- The cells of an entry at an address. -/
structure EntAt (w : World) (b o : Nat) (e : Ent) (va vx : Value) : Prop where
  c0 : w.cell? ⟨b, o, none⟩ = some (.int .i64 e.kind)
  c1 : w.cell? ⟨b, o + 1, none⟩ = some (S e.path)
  c2 : w.cell? ⟨b, o + 2, none⟩ = some va
  c3 : w.cell? ⟨b, o + 3, none⟩ = some (S e.target)
  c4 : w.cell? ⟨b, o + 4, none⟩ = some (.int .i64 e.size)
  c5 : w.cell? ⟨b, o + 5, none⟩ = some (S e.digest)
  c6 : w.cell? ⟨b, o + 6, none⟩ = some vx
theorem EntAt.thru {w w' : World} {b o : Nat} {e : Ent} {va vx : Value} (h : EntAt w b o e va vx) (hb : Below w.heap.size w w') : EntAt w' b o e va vx :=
  ⟨cell_thru hb h.c0, cell_thru hb h.c1, cell_thru hb h.c2, cell_thru hb h.c3, cell_thru hb h.c4, cell_thru hb h.c5, cell_thru hb h.c6⟩
theorem EntAt.past {w : World} {b o : Nat} {e : Ent} {va vx : Value} (h : EntAt w b o e va vx) (x : Obj) : EntAt (w.alloc x) b o e va vx :=
  ⟨cell_past x h.c0, cell_past x h.c1, cell_past x h.c2, cell_past x h.c3, cell_past x h.c4, cell_past x h.c5, cell_past x h.c6⟩
theorem EntAt.own {w w' : World} {b o : Nat} {e : Ent} {va vx : Value} {row : Option Nat} (h : EntAt w b o e va vx) (hg : w.grownBy w' row) (hne : row ≠ some b) : EntAt w' b o e va vx :=
  ⟨cell_own hg hne h.c0, cell_own hg hne h.c1, cell_own hg hne h.c2, cell_own hg hne h.c3, cell_own hg hne h.c4, cell_own hg hne h.c5, cell_own hg hne h.c6⟩
/-- A boxed entry, behind whatever leaves old memory alone. -/
theorem entBox {W w' : World} {e : Ent} {va vx : Value} {t : TypeId} {n : Nat} (hn : n = W.heap.size) (hb : Below (W.alloc (.cells #[.int .i64 e.kind, S e.path, va, S e.target, .int .i64 e.size, S e.digest, vx] t)).heap.size (W.alloc (.cells #[.int .i64 e.kind, S e.path, va, S e.target, .int .i64 e.size, S e.digest, vx] t)) w') : EntAt w' n 0 e va vx := by
  subst hn
  exact EntAt.thru ⟨by simp, by simp, by simp, by simp, by simp, by simp, by simp⟩ hb

/-- Element i of a slice of entries, in the walk's spelling. -/
theorem entAt {I : IH} {v : Value} {l : List Ent} {w : World} (h : RdS tEnt I v l) (hw : Ok I w) (i : Nat) (hi : i < l.length) : ∃ x va vx b off cap, l[i] = x ∧ v = .slice (some ⟨b, off, none⟩) l.length cap ∧
    EntAt w b (off + i * 7) x va vx ∧ RdS tAt I va x.attrs ∧ RdS tXt I vx x.exts := by
  obtain ⟨b, off, cap, cs, hv, ⟨va, vx, hcs, h1, h2⟩, hc⟩ := h.at_ hw hi
  subst hcs
  exact ⟨_, va, vx, b, off, cap, rfl, hv, ⟨hc 0 _ rfl, hc 1 _ rfl, hc 2 _ rfl, hc 3 _ rfl, hc 4 _ rfl, hc 5 _ rfl, hc 6 _ rfl⟩, h1, h2⟩
end Go.Proofs.YtcbmdghnlbieeaaGreatDoor
