/-
  Walks and laws that the claim's theorem uses: texts SoP, joined; comments out. Conditions: as each theorem says.
-/
import Derived.Test.YtjdednajelommaaGreatDoorQ36
set_option linter.unusedSimpArgs false
set_option linter.unusedVariables false
namespace Go.Proofs.YtjdednajelommaaGreatDoor
open Go.RowKit
theorem Xrc {n m:Nat} {L:List Ses} (h:ArcOk n m L):0≤lastDt L∧lastDt L≤1000000000:=by
 rcases Xb0 L with rfl|⟨k,hk,_,hg⟩
 ·exact ⟨by decide,by decide⟩
 ·have:=(h.at_ hk rfl).date
  unfold lastDt
  rw [hg]
  exact this
theorem Xok {n m:Nat} {L:List Ses} (h:ArcOk n m L) (hm:m≤250):begErr L (lastDt L)=0:=by
 have hlen:=h.len
 have hd:=Xrc h
 unfold begErr
 rw [if_neg (by omega),if_neg (by omega),if_neg (by omega)]
theorem Xug {n m:Nat} {L:List Ses} (h:ArcOk n m L) (hm:m≤250):appP L (closeP (openP L (lastDt L)))=(L++ [closeP (openP L (lastDt L))],0):=by
 have hlen:=h.len
 have h1:=Xuy (d:=openP L (lastDt L)) (by omega) (Xjh L (Xok h hm))
 unfold appP
 rw [if_neg (by rw [h1];decide)]
theorem Xuo {d:Drf} {c:Chg} (h:(addP d c).2≠0):(addP d c).1=d:=by
 rcases Xd8 d c with ⟨_,e⟩|⟨h0,_⟩
 ·exact e
 ·exact absurd h0 h
theorem Xbv {w:World} {b:Nat} {s:Ses} {ve:Value} {t:TypeId} (h:w.heap[b]? =some (.cells (sesCs s ve).toArray t (0,0))):
 w.cell? ⟨b,0,none⟩=some (.int .i64 s.num)∧w.cell? ⟨b,1,none⟩=some (.int .i64 s.date)∧w.cell? ⟨b,2,none⟩=some (S s.prev)∧w.cell? ⟨b,3,none⟩=some ve∧w.cell? ⟨b,4,none⟩=some (S s.stream)∧w.cell? ⟨b,5,none⟩=some (S s.sl):=
 ⟨(cell_of_row _ _ 0 _ _ _ h).trans rfl,(cell_of_row _ _ 1 _ _ _ h).trans rfl,(cell_of_row _ _ 2 _ _ _ h).trans rfl,(cell_of_row _ _ 3 _ _ _ h).trans rfl,(cell_of_row _ _ 4 _ _ _ h).trans rfl,(cell_of_row _ _ 5 _ _ _ h).trans rfl⟩
end Go.Proofs.YtjdednajelommaaGreatDoor
