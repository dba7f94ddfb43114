/-
  Walks of layer 32: Merge.
-/
import Derived.Test.YtnnhgmpdfjljbaaDoorAtM
namespace Go.Proofs.YtnnhgmpdfjljbaaDoor
open Go.RowKit

abbrev ownA (a b : List At) : List At := a.filter fun x => !(b.any fun y => y.k == x.k)

theorem ownA_mem (a b : List At) (z : At) : z ∈ ownA a b ↔ z ∈ a ∧ ∀ y ∈ b, y.k ≠ z.k := by
  simp [ownA, List.mem_filter]
theorem mrg_ne {a b : List At} (ha : Srt At.k a) (hb : Srt At.k b) : (b ++ ownA a b).Pairwise fun x y => x.k ≠ y.k := by
  rw [List.pairwise_append]
  refine ⟨hb.imp fun h => bl_ne h, (ha.imp fun h => bl_ne h).filter _, fun x hx y hy => ?_⟩
  exact ((ownA_mem a b y).1 hy).2 x hx
theorem mrg_len {a b : List At} (ha : Srt At.k a) (hb : Srt At.k b) : (b ++ ownA a b).length = (mrgA a b).length := by
  obtain ⟨h1, h2⟩ := mrgA_spec hb ha
  apply Nat.le_antisymm
  · have hn : ((b ++ ownA a b).map At.k).Nodup := List.pairwise_map.2 (mrg_ne ha hb)
    have := nodup_len hn (B := (mrgA a b).map At.k) fun k hk => by
      obtain ⟨x, hx, rfl⟩ := List.mem_map.1 hk
      refine List.mem_map_of_mem ((h2 x).2 ?_)
      rw [List.mem_append, ownA_mem] at hx
      exact hx
    simpa using this
  · exact len_le h1 fun x hx => ⟨x, by rw [List.mem_append, ownA_mem]; exact (h2 x).1 hx, rfl⟩
theorem mrg_sorted {a b l : List At} (ha : Srt At.k a) (hb : Srt At.k b) (h : SrtdA (b ++ ownA a b) l) : l = mrgA a b := by
  obtain ⟨h1, h2⟩ := mrgA_spec hb ha
  obtain ⟨p1, p2⟩ := h
  have hne : l.Pairwise fun x y => x.k ≠ y.k := (p1.pairwise_iff (fun {x y} h => Ne.symm h)).2 (mrg_ne ha hb)
  have hs : Srt At.k l := (hne.and p2).imp fun {x y} h => by
    rcases bl_total x.k y.k with e | e | e
    · exact e
    · exact absurd e h.1
    · rw [h.2] at e; exact absurd e (by simp)
  refine at_ext hs h1 fun z => ?_
  rw [p1.mem_iff, List.mem_append, ownA_mem, h2]
theorem ownA_take (a b : List At) (k : Nat) (h : k < a.length) : ownA (a.take (k + 1)) b = ownA (a.take k) b ++ (if (b.any fun y => y.k == a[k].k) then [] else [a[k]]) := by
  rw [List.take_succ_eq_append_getElem h]
  unfold ownA
  rw [List.filter_append]
  cases hb : (b.any fun y => y.k == a[k].k) <;> simp [hb]
end Go.Proofs.YtnnhgmpdfjljbaaDoor
