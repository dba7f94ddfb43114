/- Lemmas for the claim's theorem;conditions: as each says. -/
import Derived.Test.YtmdfjnhfhidmhaaGreatDoorQ25
set_option linter.all false
namespace Go.Proofs.YtmdfjnhfhidmhaaGreatDoor
open Go.RowKit
variable{st:List af}{x:Xt}
theorem Xoa{l:List Xt}{k:Nat}{out:af}{N:af×Int}(hk:k<l.length)(hx:l[k]=x)(h:jP st (l.drop k) out=N):
 (if sH st x=true then([],2)else if 0<x.s∧(((iI st x).length:Int)<x.o∨((iI st x).length:Int)-x.o<x.n)then([],2)else if 65536-(out.length:Int)<x.n then([],6)
 else jP st (l.drop (k+1)) (out++if x.s=0 then List.replicate x.n.toNat 0 else((iI st x).drop x.o.toNat).take x.n.toNat))=N:=by
 rw[List.drop_eq_getElem_cons hk,hx,jP]at h;exact h
theorem KU(h:x.n<0∨x.o<0∨x.s<0∨(st.length:Int)<x.s∨(x.s=0∧x.o≠0)):sH st x=true:=by
 unfold sH;rcases h with h|h|h|h|⟨h1,h2⟩
 ·rw[Qt h];simp
 ·rw[Qt h];simp
 ·rw[Qt h];simp
 ·rw[Qt h];simp
 ·simp[h1,h2]
theorem Ov(h1:¬x.n<0)(h2:¬x.o<0)(h3:¬x.s<0)(h4:¬(st.length:Int)<x.s)(h5:¬(x.s=0∧x.o≠0)):sH st x=false:=by
 unfold sH;rw[Qf h1,Qf h2,Qf h3,Qf h4];simpa using h5
