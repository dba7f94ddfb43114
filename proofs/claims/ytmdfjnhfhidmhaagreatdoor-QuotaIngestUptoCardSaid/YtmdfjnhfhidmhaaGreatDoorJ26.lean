/- Lemmas for the claim's theorem;conditions: as each says. -/
import Derived.Test.YtmdfjnhfhidmhaaGreatDoorJ25
set_option linter.all false
namespace Go.Proofs.YtmdfjnhfhidmhaaGreatDoor
open Go.RowKit
variable{st:List af}{x:Xt}
theorem Xr5{l:List Xt}{k:Nat}{out:af}{N:af×Int}(hk:k<l.length)(hx:l[k]=x)(h:mP st (l.drop k) out=N):
 (if xK st x=true then([],2)else if 0<x.s∧(((kR st x).length:Int)<x.o∨((kR st x).length:Int)-x.o<x.n)then([],2)else if 65536-(out.length:Int)<x.n then([],6)
 else mP st (l.drop (k+1)) (out++if x.s=0 then List.replicate x.n.toNat 0 else((kR st x).drop x.o.toNat).take x.n.toNat))=N:=by
 rw[List.drop_eq_getElem_cons hk,hx,mP]at h;exact h
theorem RY(h:x.n<0∨x.o<0∨x.s<0∨(st.length:Int)<x.s∨(x.s=0∧x.o≠0)):xK st x=true:=by
 unfold xK;rcases h with h|h|h|h|⟨h1,h2⟩
 ·rw[Qt h];simp
 ·rw[Qt h];simp
 ·rw[Qt h];simp
 ·rw[Qt h];simp
 ·simp[h1,h2]
theorem VC(h1:¬x.n<0)(h2:¬x.o<0)(h3:¬x.s<0)(h4:¬(st.length:Int)<x.s)(h5:¬(x.s=0∧x.o≠0)):xK st x=false:=by
 unfold xK;rw[Qf h1,Qf h2,Qf h3,Qf h4];simpa using h5
