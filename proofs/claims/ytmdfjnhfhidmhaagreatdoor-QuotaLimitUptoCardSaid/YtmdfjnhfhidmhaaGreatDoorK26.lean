/-
  Walks and laws that the claim's theorem uses: texts CkG, joined; comments out. Conditions: as each theorem says.
-/
import Derived.Test.YtmdfjnhfhidmhaaGreatDoorK25
set_option linter.all false
namespace Go.Proofs.YtmdfjnhfhidmhaaGreatDoor
open Go.RowKit
theorem Xo3 {st:List Bytes} {l:List Xt} {k:Nat} {out:Bytes} {N:Bytes × Int} (hk:k<l.length) {x:Xt} (hx:l[k]=x) (h:getG st (l.drop k) out=N):
 (if gBad st x=true then ([],2) else if 0<x.s∧(((strAtP st x).length:Int)<x.o∨((strAtP st x).length:Int)-x.o<x.n) then ([],2) else if 65536-(out.length:Int)<x.n then ([],6)
 else getG st (l.drop (k+1)) (out++if x.s=0 then List.replicate x.n.toNat 0 else ((strAtP st x).drop x.o.toNat).take x.n.toNat))=N:=by
 rw [List.drop_eq_getElem_cons hk,hx,getG] at h;exact h
theorem Xfs {st:List Bytes} {x:Xt} (h:x.n<0∨x.o<0∨x.s<0∨(st.length:Int)<x.s∨(x.s=0∧x.o≠0)):gBad st x=true:=by
 unfold gBad
 rcases h with h|h|h|h|⟨h1,h2⟩
 ·rw [Qt h];simp
 ·rw [Qt h];simp
 ·rw [Qt h];simp
 ·rw [Qt h];simp
 ·simp [h1,h2]
theorem Xew {st:List Bytes} {x:Xt} (h1:¬x.n<0) (h2:¬x.o<0) (h3:¬x.s<0) (h4:¬(st.length:Int)<x.s) (h5:¬(x.s=0∧x.o≠0)):gBad st x=false:=by
 unfold gBad
 rw [Qf h1,Qf h2,Qf h3,Qf h4]
 simpa using h5
end Go.Proofs.YtmdfjnhfhidmhaaGreatDoor
