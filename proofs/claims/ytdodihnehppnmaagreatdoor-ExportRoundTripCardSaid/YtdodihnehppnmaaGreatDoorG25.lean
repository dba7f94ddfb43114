/- Lemmas for the claim's theorem;conditions: as each says. -/
import Derived.Test.YtdodihnehppnmaaGreatDoorG21
set_option linter.all false
namespace Go.Proofs.YtdodihnehppnmaaGreatDoor
open Go.RowKit
variable{st:List ae}{x:Xt}
theorem Xt4{l:List Xt}{k:Nat}{out:ae}{N:ae×Int}(hk:k<l.length)(hx:l[k]=x)(h:qE st (l.drop k) out=N):
 (if BP st x=true then([],2)else if 0<x.s∧(((pK st x).length:Int)<x.o∨((pK st x).length:Int)-x.o<x.n)then([],2)else if 65536-(out.length:Int)<x.n then([],6)
 else qE st (l.drop (k+1)) (out++if x.s=0 then List.replicate x.n.toNat 0 else((pK st x).drop x.o.toNat).take x.n.toNat))=N:=by
 rw[List.drop_eq_getElem_cons hk,hx,qE]at h;exact h
theorem QG(h:x.n<0∨x.o<0∨x.s<0∨(st.length:Int)<x.s∨(x.s=0∧x.o≠0)):BP st x=true:=by
 unfold BP;rcases h with h|h|h|h|⟨h1,h2⟩
 ·rw[Qt h];simp
 ·rw[Qt h];simp
 ·rw[Qt h];simp
 ·rw[Qt h];simp
 ·simp[h1,h2]
theorem Xqd(h1:¬x.n<0)(h2:¬x.o<0)(h3:¬x.s<0)(h4:¬(st.length:Int)<x.s)(h5:¬(x.s=0∧x.o≠0)):BP st x=false:=by
 unfold BP;rw[Qf h1,Qf h2,Qf h3,Qf h4];simpa using h5
