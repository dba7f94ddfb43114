/- Lemmas for the claim's theorem;conditions: as each says. -/
import Derived.Test.YtmdfjnhfhidmhaaGreatDoorJ08
set_option maxHeartbeats 0
set_option maxRecDepth 100000
set_option linter.all false
namespace Go.Proofs.YtmdfjnhfhidmhaaGreatDoor
open Go.RowKit
def fC(e:aT):Int:=
 if e.size<0∨65536<e.size∨(e.au≠1∧e.size≠0)then 2
 else if(e.au=1∧e.av.length≠32)∨(e.au≠1∧e.av≠[])then 1
 else if bW (e.au==1) e.aA≠0 then bW (e.au==1) e.aA
 else if iI e.aA≠e.size then 1 else 0
theorem Xmg(l:List Xt)(k:Nat):iI l=iI (l.take k)+iI (l.drop k):=by
 conv=>lhs;rw[←List.take_append_drop k l]
 simp only[iI,List.map_append,List.sum_append]
theorem Xtc{l:List Xt}(h:∀x∈l,dh x=false):0≤iI l:=(Xnq l.length l rfl h).1
theorem Xp2(I:IH)(x:aT)(va vx:Value)(fq:aZ lD I va x.aj)(kJ:aZ lY I vx x.aA)(l7:x.Wf)(w:World)(hw:Ok I w):
 Calls Tryz.prog 133 #[gN x va vx] w fun e w'=>e= .returned (.int .i64 (fC x))∧Below w.heap.size w w':=by
 have dA:=kJ.bF;obtain⟨ao,cap,rfl,dO,fJ,_⟩:=id kJ;obtain⟨pF,cap2,rfl,_,_,_⟩:=id fq;have Kg:=Qh kJ;have lC:=l7.s0;have qj:=l7.s1;have ng:=l7.av;clear kJ fq l7;have Bw:bB (w.alloc (.cells #[.int .i64 x.au,S x.ag,.slice pF x.aj.length cap2,S x.target,.int .i64 x.size,S x.av,.slice ao x.aA.length cap] 81)) w.heap.size x (.slice pF x.aj.length cap2) (.slice ao x.aA.length cap):=dx rfl (Qb _ _);have HB0:=Qh Bw;clear Bw;by_cases Er:x.size<0;case pos=>
  have Hn:=Qh (show fC x=2 by rw[fC,if_pos (.inl Er)]);by_cases hf:x.au=1
  ·have f1:((x.au:Int)==1)=true:=by simpa using hf
   clear hf;go_enter Tryz.func133,Tryz.ntmps133
   go_wp2;go_ret;exact⟨di Hn.O.symm,(Qb _ _).alloc (Qn _) _⟩
  ·have f1:((x.au:Int)==1)=false:=by simpa using hf
   clear hf;go_enter Tryz.func133,Tryz.ntmps133
   go_wp2;go_ret;exact⟨di Hn.O.symm,(Qb _ _).alloc (Qn _) _⟩
 by_cases hf:x.au=1
 ·have f1:((x.au:Int)==1)=true:=by simpa using hf
  have f2:((x.au:Int) !=1)=false:=by simpa using hf
  by_cases O3:65536<x.size;case pos=>
   have Hn:=Qh (show fC x=2 by rw[fC,if_pos (.inr (.inl O3))]);clear hf;go_enter Tryz.func133,Tryz.ntmps133
   go_wp2;go_ret;exact⟨di Hn.O.symm,(Qb _ _).alloc (Qn _) _⟩
  by_cases Af:x.av.length=32;case neg=>
   have Hn:=Qh (show fC x=1 by rw[fC,if_neg (by omega),if_pos (.inl ⟨hf,Af⟩)]);have z1:((x.av.length:Int) !=32)=true:=by rw[bne_iff_ne];omega
   clear hf Af;go_enter Tryz.func133,Tryz.ntmps133
   go_wp2;go_ret;exact⟨di Hn.O.symm,(Qb _ _).alloc (Qn _) _⟩
  have z1:((x.av.length:Int) !=32)=false:=by rw[Af];rfl
  have Hc:=Qh (show fC x=if bW true x.aA≠0 then bW true x.aA else if iI x.aA≠x.size then 1 else 0 by
   rw[fC,if_neg (by omega),if_neg (by
    rintro(⟨_,h⟩|⟨h,_⟩)
    ·exact h Af
    ·exact h hf),f1])
  have Hfk:=Qh hf;clear hf Af;go_enter Tryz.func133,Tryz.ntmps133
  go_wp2_with fail
  go_loopw [32] (fun Mg wr=> ∃k:Nat,k≤x.aA.length∧Mg= .int .i64 k∧bW true (x.aA.drop k)=bW true x.aA∧bB wr w.heap.size x (.slice pF x.aj.length cap2) (.slice ao x.aA.length cap)∧Below w.heap.size w wr∧w.heap.size<wr.heap.size) (fun i _=>x.aA.length-(intOf i).toNat)
  case atStart=>exact⟨0,Nat.zero_le _,rfl,rfl,HB0.O,(Qb _ _).alloc (Qn _) _,by simp⟩
  case round=>
   clear HB0;obtain⟨k,hk,rfl,hr,Ag,hb,dM⟩:=hrel;have Hr:=Qh hr;clear hr;have HBw:=Qh Ag;obtain⟨c0,c1,c2,c3,c4,c5,c6⟩:=Ag;have dG:Ok I wr:=hw.below (Qn _) hb;by_cases hlt:k<x.aA.length
   ·obtain⟨y,b,off,cap',ky,cZ,e0,e1,e2⟩:=xA Kg.O dG k hlt;cases cZ;have wo:=Qh (show x.aA.drop k=y::x.aA.drop (k+1) by rw[List.drop_eq_getElem_cons hlt,ky]);have bu:=Qh (show fC x=if(if dh y then 2 else bW true (x.aA.drop (k+1)))≠0 then(if dh y then 2 else bW true (x.aA.drop (k+1)))else if iI x.aA≠x.size then 1 else 0 by
     rw[Hc.O,←Hr.O,wo.O,OY])
    clear ky;by_cases h1:y.s<0
    ·have kF:=Qh (show fC x=2 by rw[bu.O,if_pos (show dh y=true by unfold dh;simp;omega)];rfl);go_wp2;go_ret;exact⟨di kF.O.symm,hb.alloc hb.size _⟩
    by_cases h2:255<y.s
    ·have kF:=Qh (show fC x=2 by rw[bu.O,if_pos (show dh y=true by unfold dh;simp;omega)];rfl);go_wp2;go_ret;exact⟨di kF.O.symm,hb.alloc hb.size _⟩
    by_cases h5:y.n<1
    ·have kF:=Qh (show fC x=2 by rw[bu.O,if_pos (show dh y=true by unfold dh;simp;omega)];rfl);go_wp2;go_ret;exact⟨di kF.O.symm,hb.alloc hb.size _⟩
    by_cases h6:65536<y.n
    ·have kF:=Qh (show fC x=2 by rw[bu.O,if_pos (show dh y=true by unfold dh;simp;omega)];rfl);go_wp2;go_ret;exact⟨di kF.O.symm,hb.alloc hb.size _⟩
    by_cases h3:y.o<0
    ·have kF:=Qh (show fC x=2 by rw[bu.O,if_pos (show dh y=true by unfold dh;simp;omega)];rfl);go_wp2;go_ret;exact⟨di kF.O.symm,hb.alloc hb.size _⟩
    by_cases h4:2147483647<y.o
    ·have kF:=Qh (show fC x=2 by rw[bu.O,if_pos (show dh y=true by unfold dh;simp;omega)];rfl);go_wp2;go_ret;exact⟨di kF.O.symm,hb.alloc hb.size _⟩
    by_cases h7:y.s=0
    ·have g7:(y.s==0)=true:=by simpa using h7
     by_cases h8:y.o=0
     ·have g8:(y.o !=0)=false:=by simpa using h8
      have iL:=Qh (show bW true (x.aA.drop (k+1))=bW true x.aA by
       rw[←Hr.O,wo.O,OY,if_neg (show ¬dh y=true by unfold dh;simp;omega)])
      go_wp2;go_roundw;case rel=>exact⟨k+1,by omega,by go_num,iL.O,HBw.O.past _,hb.alloc hb.size _,by simp;omega⟩
      case measure=>simp[intOf];omega
     ·have g8:(y.o !=0)=true:=by simpa using h8
      have kF:=Qh (show fC x=2 by rw[bu.O,if_pos (show dh y=true by unfold dh;simp;omega)];rfl);go_wp2;go_ret;exact⟨di kF.O.symm,hb.alloc hb.size _⟩
    ·have g7:(y.s==0)=false:=by simpa using h7
     have iL:=Qh (show bW true (x.aA.drop (k+1))=bW true x.aA by
      rw[←Hr.O,wo.O,OY,if_neg (show ¬dh y=true by unfold dh;simp;omega)])
     go_wp2;go_roundw;case rel=>exact⟨k+1,by omega,by go_num,iL.O,HBw.O.past _,hb.alloc hb.size _,by simp;omega⟩
     case measure=>simp[intOf];omega
   ·have D7:=Qh (show bW true x.aA=0 by rw[←Hr.O,List.drop_of_length_le (by omega)];rfl);have Kn:=Qh (XA _ D7.O);have O4:=Qh (show fC x=if iI x.aA≠x.size then 1 else 0 by rw[Hc.O,D7.O];rfl);go_wp2_with fail
    go_loopw [5,81] (fun s5 Yi wq=> ∃(j:Nat) (r:Int),j≤x.aA.length∧Yi= .int .i64 j∧s5= .int .i64 r∧0≤r∧r≤65536∧r=x.size-iI (x.aA.take j)∧Below w.heap.size w wq) (fun _ i _=>x.aA.length-(intOf i).toNat)
    case atStart=>exact⟨0,x.size,Nat.zero_le _,rfl,rfl,by omega,by omega,by simp[iI],hb⟩
    case round=>
     clear c0 c1 c2 c3 c4 c5 c6 dG hb;obtain⟨j,r,hj,rfl,rfl,Oh,tC,hrr,hb⟩:=hrel;have QO:=Qh hrr;clear hrr;have dG:Ok I wr:=hw.below (Qn _) hb;by_cases jh:j<x.aA.length
     ·obtain⟨y,b,off,cap',ky,cZ,e0,e1,e2⟩:=xA Kg.O dG j jh;cases cZ;have hym:dh y=false:=Kn.O y (by rw[←ky];exact List.getElem_mem jh);have hyl:=XC hym;have ny:=Qh (show iI (x.aA.take (j+1))=iI (x.aA.take j)+y.n by rw[List.take_succ_eq_append_getElem jh,ky,XD]);clear ky hym;by_cases Et:r<y.n
      ·have Hn:=Qh (show fC x=1 by
        rw[O4.O,if_pos];have h1:=Xmg x.aA (j+1);have h2:=Xtc (l:=x.aA.drop (j+1)) fun z hz=>Kn.O z (List.mem_of_mem_drop hz);have h3:=ny.O;have h4:=QO.O;omega)
       go_wp2;go_ret;exact⟨di Hn.O.symm,hb.alloc hb.size _⟩
      ·have wL:IntKind.i64.wrap (r-y.n)=r-y.n:=IntWalk.i64_in _ (by omega);go_wp2;go_roundw;case rel=>exact⟨j+1,r-y.n,by omega,by go_num,by go_num,by omega,by omega,(by have h3:=ny.O;have h4:=QO.O;omega),hb.alloc hb.size _⟩
       case measure=>simp[intOf];omega
     ·have aC:x.aA.take j=x.aA:=List.take_of_length_le (by omega);rw[aC]at QO;clear aC;by_cases hz:r=0
      ·have z0:(r !=0)=false:=by simpa using hz
       have Hn:=Qh (show fC x=0 by rw[O4.O,if_neg];have:=QO.O;omega);clear hz;go_wp2;go_ret;exact⟨di Hn.O.symm,hb⟩
      ·have z0:(r !=0)=true:=by simpa using hz
       have Hn:=Qh (show fC x=1 by rw[O4.O,if_pos];have:=QO.O;omega);clear hz;go_wp2;go_ret;exact⟨di Hn.O.symm,hb⟩
 ·have f1:((x.au:Int)==1)=false:=by simpa using hf
  have f2:((x.au:Int) !=1)=true:=by simpa using hf
  by_cases hz:x.size=0;case neg=>
   have Hn:=Qh (show fC x=2 by rw[fC,if_pos (.inr (.inr ⟨hf,hz⟩))]);have Et:0<x.size:=by omega
   clear hf hz;go_enter Tryz.func133,Tryz.ntmps133
   go_wp2;go_ret;exact⟨di Hn.O.symm,(Qb _ _).alloc (Qn _) _⟩
  have bZ:x.size≤0:=by omega
  by_cases Af:x.av.length=0;case neg=>
   have Hn:=Qh (show fC x=1 by rw[fC,if_neg (by omega),if_pos (.inr ⟨hf,fun e=>Af (by rw[e];rfl)⟩)]);have z1:((x.av.length:Int) !=0)=true:=by rw[bne_iff_ne];omega
   clear hf Af;go_enter Tryz.func133,Tryz.ntmps133
   go_wp2;go_ret;exact⟨di Hn.O.symm,(Qb _ _).alloc (Qn _) _⟩
  have z1:((x.av.length:Int) !=0)=false:=by rw[Af];rfl
  have Hc:=Qh (show fC x=if bW false x.aA≠0 then bW false x.aA else if iI x.aA≠x.size then 1 else 0 by
   rw[fC,if_neg (by omega),if_neg (by
    rintro(⟨h,_⟩|⟨_,h⟩)
    ·exact hf h
    ·exact h (List.eq_nil_of_length_eq_zero Af)),f1])
  have Hz:=Qh hz;clear hf Af hz;by_cases tT:0<x.aA.length
  ·obtain⟨y,b,off,cap',ky,cZ,e0,e1,e2⟩:=xA Kg.O (hw.alloc (.cells #[.int .i64 x.au,S x.ag,.slice pF x.aj.length cap2,S x.target,.int .i64 x.size,S x.av,.slice ao x.aA.length cap] 81)) 0 tT;cases cZ;have PL:x.aA=y::x.aA.drop 1:=by rw[←ky,←List.drop_eq_getElem_cons tT];rfl
   have Hn:=Qh (show fC x=1 by rw[Hc.O,PL];rfl);rw[Nat.zero_mul,Nat.add_zero]at e0 e1 e2;clear ky PL;go_enter Tryz.func133,Tryz.ntmps133
   go_wp2_with fail
   go_loopw [32] (fun Mg wr=>Mg= .int .i64 0∧w.alloc (.cells #[.int .i64 x.au,S x.ag,.slice pF x.aj.length cap2,S x.target,.int .i64 x.size,S x.av,.slice (some ⟨b,off,none⟩) x.aA.length cap] 81)=wr) (fun _ _=>0)
   case atStart=>exact⟨rfl,rfl⟩
   case round=>
    obtain⟨rfl,dG⟩:=hrel;subst dG;go_wp2;go_ret;exact⟨di Hn.O.symm,((Qb _ _).alloc (Qn _) _).alloc (by simp) _⟩
  ·have D7:=Qh (show x.aA=[]from List.eq_nil_of_length_eq_zero (by omega));have Hn:=Qh (show fC x=0 by rw[Hc.O,D7.O,Hz.O];rfl);have z0:(x.size !=0)=false:=by rw[Hz.O];rfl
   go_enter Tryz.func133,Tryz.ntmps133
   go_wp2_with fail
   go_loopw [32] (fun Mg wr=>Mg= .int .i64 0∧w.alloc (.cells #[.int .i64 x.au,S x.ag,.slice pF x.aj.length cap2,S x.target,.int .i64 x.size,S x.av,.slice ao x.aA.length cap] 81)=wr) (fun _ _=>0)
   case atStart=>exact⟨rfl,rfl⟩
   case round=>
    obtain⟨rfl,dG⟩:=hrel;subst dG;go_wp2_with fail
    go_loopw [5,81] (fun s5 Yi wr=>s5= .int .i64 x.size∧Yi= .int .i64 0∧w.alloc (.cells #[.int .i64 x.au,S x.ag,.slice pF x.aj.length cap2,S x.target,.int .i64 x.size,S x.av,.slice ao x.aA.length cap] 81)=wr) (fun _ _ _=>0)
    case atStart=>exact⟨rfl,rfl,rfl⟩
    case round=>
     obtain⟨rfl,rfl,dG⟩:=hrel;subst dG;go_wp2;go_ret;exact⟨di Hn.O.symm,(Qb _ _).alloc (Qn _) _⟩
