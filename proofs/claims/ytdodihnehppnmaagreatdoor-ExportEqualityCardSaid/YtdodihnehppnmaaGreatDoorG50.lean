/- Lemmas for the claim's theorem;conditions: as each says. -/
import Derived.Test.YtdodihnehppnmaaGreatDoorG46
set_option linter.all false
namespace Go.Proofs.YtdodihnehppnmaaGreatDoor
open Go.ChangeShapes Go.WideShapes Go.ChangeAt Go.RowKit
theorem Xwt{H:Type}{P:Program}{enc:TypeId×Value→H}{w:World}{r:Reach}{b0 base:Nat}{spare:Nat→Bool}{held:Bool}{t e:TypeId}{v:Value}{d:DataW H}{ps:List MemPlace}
 (ht:P.underlying t=some (.array 2 e)) (hC:P.cellsOf t=2) (he:P.underlying e=some (.int .i64)) (hc:P.cellsOf e=1) (hv:Value.okWide P w r b0 t v) (h:DataW.Trod enc P w base spare held t v d ps):
 ∃a b:Int,v= .agg #[.int .i64 a,.int .i64 b]:=by
 simp only[Value.okWide,ht]at hv;obtain⟨cs,rfl,eU,_⟩:=hv;obtain⟨fuel,hf⟩:=h;obtain⟨xs,m,_,_,hl,mP,hx⟩:=DataW.trod_array ht hf;rw[hC]at eU;have hs:∀i,i<2→ ∃n:Int,cs[i]?=some (.int .i64 n):=by
  intro i yV;have h1:=hx i yV;rw[hc,Nat.mul_one,List.getElem?_eq_getElem (by omega)]at h1;have hi:i<cs.size:=by omega
  have h2:(List.drop i (Value.agg cs).cells.toList).take 1=[cs[i]]:=by
   simp only[Value.cells];rw[List.drop_eq_getElem_cons (by simpa using hi)];simp
  rw[h2]at h1;obtain⟨n,e0,_,_⟩:=DataW.trod_int he h1;exact⟨n,by rw[Array.getElem?_eq_getElem hi];simpa using e0⟩
 obtain⟨a,ha⟩:=hs 0 (by omega);obtain⟨b,hb⟩:=hs 1 (by omega);refine⟨a,b,?_⟩;congr 1;apply Array.ext_getElem?;intro i;rcases i with _|_|i
 ·simpa using ha
 ·simpa using hb
 ·rw[Array.getElem?_eq_none (by omega),Array.getElem?_eq_none (by simp)]
