/- Lemmas for the claim's theorem;conditions: as each says. -/
import Derived.Test.YtdodihnehppnmaaGreatDoorG23
import Derived.Test.YtdodihnehppnmaaGreatDoorG27
set_option maxHeartbeats 0
set_option maxRecDepth 100000
set_option linter.all false
namespace Go.Proofs.YtdodihnehppnmaaGreatDoor
open Go.RowKit
def jl(s:dm):Int:=if sJ s then 1 else 0
def lu(l:List dm):Int:=if vD l then 1 else 0
theorem Xoa(I:IH)(s:dm)(ve:Value)(uQ:bf bC I ve s.aH)(iZ:∀e∈s.aH,e.Wf)(w:World)(hw:Ok I w):
 Calls Tryz.prog 33 #[uA s ve] w fun r w'=>r= .returned (.int .i64 (jl s))∧Below w.heap.size w w':=by
 have hlen:=uQ.dh;obtain⟨ao,co,rfl,_,_,_⟩:=id uQ;have Hv:=Qh uQ;have QL:=Qh iZ;clear uQ iZ;by_cases h1:100<s.bP.length
 ·have d1:decide ((100:Int)<(s.bP.length:Int))=true:=Qt (by omega);have Hn:=Qh (show jl s=1 by rw[jl,sJ,Qt h1];simp);clear h1;go_enter Tryz.func33,Tryz.ntmps33
  go_wp2;go_ret;exact⟨bT Hn.O.symm,(Qb w.heap.size w).alloc (Qn _) _⟩
 have d1:decide ((100:Int)<(s.bP.length:Int))=false:=Qf (by omega);by_cases h2:1000<s.aI.length
 ·have d2:decide ((1000:Int)<(s.aI.length:Int))=true:=Qt (by omega);have Hn:=Qh (show jl s=1 by rw[jl,sJ,Qt h2];simp);clear h1 h2;go_enter Tryz.func33,Tryz.ntmps33
  go_wp2;go_ret;exact⟨bT Hn.O.symm,(Qb w.heap.size w).alloc (Qn _) _⟩
 have d2:decide ((1000:Int)<(s.aI.length:Int))=false:=Qf (by omega);by_cases h3:2100<s.sl.length
 ·have d3:decide ((2100:Int)<(s.sl.length:Int))=true:=Qt (by omega);have Hn:=Qh (show jl s=1 by rw[jl,sJ,Qt h3];simp);clear h1 h2 h3;go_enter Tryz.func33,Tryz.ntmps33
  go_wp2;go_ret;exact⟨bT Hn.O.symm,(Qb w.heap.size w).alloc (Qn _) _⟩
 have d3:decide ((2100:Int)<(s.sl.length:Int))=false:=Qf (by omega);have sZ:sJ s=((decide (12<s.aH.length)&&decide (s.aH.length≠401)) || s.aH.any fI):=by
  rw[sJ,Qf h1,Qf h2,Qf h3];rfl
 clear h1 h2 h3;by_cases h4:12<s.aH.length
 ·have d4:decide ((12:Int)<(s.aH.length:Int))=true:=Qt (by omega);by_cases h5:s.aH.length=401
  ·have d5:((s.aH.length:Int) !=401)=false:=by rw[h5];rfl
   have d6:((s.aH.length:Int)==401)=true:=by rw[h5];rfl
   have vF:=Qh (show sJ s=s.aH.any fI by rw[sZ,show decide (s.aH.length≠401)=false from Qf (by omega),Bool.and_false,Bool.false_or]);clear sZ h5 h4;go_enter Tryz.func33,Tryz.ntmps33
   go_wp2_with fail
   have lH:=Qh (wZ (W:=w) (s:=s) (ve:= .slice ao s.aH.length co) (t:=35) rfl (Qb _ _));have om:=(Qb w.heap.size w).alloc (Qn _) (.cells #[.int .i64 s.num,.int .i64 s.aT,S s.bP,.slice ao s.aH.length co,S s.aI,S s.sl] 35);go_loopw [3] (fun s3 wr=> ∃k:Nat,k≤s.aH.length∧s3= .int .i64 k∧(s.aH.take k).any fI=false∧mY wr w.heap.size s (.slice ao s.aH.length co)∧Below w.heap.size w wr) (fun i _=>s.aH.length-(intOf i).toNat)
   case atStart=>exact⟨0,Nat.zero_le _,rfl,rfl,lH.O,om⟩
   case round=>
    clear lH om;obtain⟨k,hk,rfl,ET,ma,hb⟩:=hrel;have lL:=Qh ma;have zZ:=Qh ET;have dz:Ok I wr:=hw.below (Qn _) hb;clear ma ET;obtain⟨c0,c1,c2,c3,c4,c5⟩:=lL.O;by_cases hlt:k<s.aH.length
    ·obtain⟨x,Gw,Gx,b,off,cap',bN,di,⟨x0,x1,x2,x3,x4,x5,x6⟩,h1,h2⟩:=oG Hv.O dz k hlt;cases di;obtain⟨xa,xc,rfl,_,_,_⟩:=id h1;obtain⟨xx,xd,rfl,_,_,_⟩:=id h2;have gL:x∈s.aH:=by rw[←bN];exact List.getElem_mem hlt
     have uO:=QL.O x gL;have y8:=Qh (any_take_succ (p:=fI) hlt bN zZ.O);have nK:=Qh (Yq (p:=fI) hlt bN);have pY:=Qh (fun w hw=>YF I x _ _ h1 h2 uO w hw);clear bN h1 h2 gL uO zZ;go_wp2_with fail
     refine(pY.O _ dz).mono ?_;rintro e1 w4 ⟨rfl,aL⟩;have fG:=Qh (lL.O.aA aL);have aO:=hb.trans (aL.mono hb.size);clear aL lL c0 c1 c2 c3 c4 c5 x0 x1 x2 x3 x4 x5 x6 pY;cases hx0:fI x
     ·rw[show grE x=0 by rw[grE,hx0];rfl];have iQ:=Qh (y8.O hx0);clear hx0 y8 nK;go_wp2;go_roundw;case rel=>exact⟨k+1,by omega,by go_num,iQ.O,fG.O,aO⟩
      case measure=>simp[intOf];omega
     ·rw[show grE x=1 by rw[grE,hx0];rfl];have Hn:=Qh (show jl s=1 by rw[jl,vF.O,nK.O hx0];rfl);clear hx0 y8 nK;go_wp2;go_ret;exact⟨bT Hn.O.symm,aO⟩
    ·have Hn:=Qh (show jl s=0 by
      have h:=zZ.O;rw[List.take_of_length_le (by omega)]at h;rw[jl,vF.O,h];rfl)
     go_wp2;go_ret;exact⟨bT Hn.O.symm,hb⟩
  ·have d5:((s.aH.length:Int) !=401)=true:=by simpa using(show(s.aH.length:Int)≠401 by omega)
   have d6:((s.aH.length:Int)==401)=false:=by simpa using(show(s.aH.length:Int)≠401 by omega)
   have Hn:=Qh (show jl s=1 by rw[jl,sZ,Qt h4,Qt h5];simp);clear sZ h5 h4;go_enter Tryz.func33,Tryz.ntmps33
   go_wp2;go_ret;exact⟨bT Hn.O.symm,(Qb w.heap.size w).alloc (Qn _) _⟩
 ·have d4:decide ((12:Int)<(s.aH.length:Int))=false:=Qf (by omega);have vF:=Qh (show sJ s=s.aH.any fI by rw[sZ,Qf h4];rfl);clear sZ h4;go_enter Tryz.func33,Tryz.ntmps33
  go_wp2_with fail
  have lH:=Qh (wZ (W:=w) (s:=s) (ve:= .slice ao s.aH.length co) (t:=35) rfl (Qb _ _));have om:=(Qb w.heap.size w).alloc (Qn _) (.cells #[.int .i64 s.num,.int .i64 s.aT,S s.bP,.slice ao s.aH.length co,S s.aI,S s.sl] 35);go_loopw [3] (fun s3 wr=> ∃k:Nat,k≤s.aH.length∧s3= .int .i64 k∧(s.aH.take k).any fI=false∧mY wr w.heap.size s (.slice ao s.aH.length co)∧Below w.heap.size w wr) (fun i _=>s.aH.length-(intOf i).toNat)
  case atStart=>exact⟨0,Nat.zero_le _,rfl,rfl,lH.O,om⟩
  case round=>
   clear lH om;obtain⟨k,hk,rfl,ET,ma,hb⟩:=hrel;have lL:=Qh ma;have zZ:=Qh ET;have dz:Ok I wr:=hw.below (Qn _) hb;clear ma ET;obtain⟨c0,c1,c2,c3,c4,c5⟩:=lL.O;by_cases hlt:k<s.aH.length
   ·obtain⟨x,Gw,Gx,b,off,cap',bN,di,⟨x0,x1,x2,x3,x4,x5,x6⟩,h1,h2⟩:=oG Hv.O dz k hlt;cases di;obtain⟨xa,xc,rfl,_,_,_⟩:=id h1;obtain⟨xx,xd,rfl,_,_,_⟩:=id h2;have gL:x∈s.aH:=by rw[←bN];exact List.getElem_mem hlt
    have uO:=QL.O x gL;have y8:=Qh (any_take_succ (p:=fI) hlt bN zZ.O);have nK:=Qh (Yq (p:=fI) hlt bN);have pY:=Qh (fun w hw=>YF I x _ _ h1 h2 uO w hw);clear bN h1 h2 gL uO zZ;go_wp2_with fail
    refine(pY.O _ dz).mono ?_;rintro e1 w4 ⟨rfl,aL⟩;have fG:=Qh (lL.O.aA aL);have aO:=hb.trans (aL.mono hb.size);clear aL lL c0 c1 c2 c3 c4 c5 x0 x1 x2 x3 x4 x5 x6 pY;cases hx0:fI x
    ·rw[show grE x=0 by rw[grE,hx0];rfl];have iQ:=Qh (y8.O hx0);clear hx0 y8 nK;go_wp2;go_roundw;case rel=>exact⟨k+1,by omega,by go_num,iQ.O,fG.O,aO⟩
     case measure=>simp[intOf];omega
    ·rw[show grE x=1 by rw[grE,hx0];rfl];have Hn:=Qh (show jl s=1 by rw[jl,vF.O,nK.O hx0];rfl);clear hx0 y8 nK;go_wp2;go_ret;exact⟨bT Hn.O.symm,aO⟩
   ·have Hn:=Qh (show jl s=0 by
     have h:=zZ.O;rw[List.take_of_length_le (by omega)]at h;rw[jl,vF.O,h];rfl)
    go_wp2;go_ret;exact⟨bT Hn.O.symm,hb⟩
theorem Xn8(I:IH)(v:Value)(l:List dm)(hv:bf oK I v l)(iZ:∀x∈l,x.Wf)(w:World)(hw:Ok I w):
 Calls Tryz.prog 11 #[v] w fun r w'=>r= .returned (.int .i64 (lu l))∧Below w.heap.size w w':=by
 have hlen:=hv.dh;obtain⟨ao,cap,rfl,_,_,_⟩:=id hv;have Hv:=Qh hv;have QL:=Qh iZ;clear hv iZ;by_cases h8:8<l.length
 ·have d1:decide ((8:Int)<(l.length:Int))=true:=Qt (by omega);have Hn:=Qh (show lu l=1 by rw[lu,vD,Qt h8];simp);clear h8;go_enter Tryz.func11,Tryz.ntmps11
  go_wp2;go_ret;exact⟨bT Hn.O.symm,Qb _ _⟩
 have d1:decide ((8:Int)<(l.length:Int))=false:=Qf (by omega);have vF:=Qh (show vD l=(l.any nY || decide (20000<xI l)) by rw[vD,Qf h8];rfl);go_enter Tryz.func11,Tryz.ntmps11
 go_wp2_with fail
 go_loopw [3,13] (fun s3 s13 wr=> ∃k:Nat,k≤l.length∧s13= .int .i64 k∧s3= .int .i64 (xI (l.take k))∧(l.take k).any nY=false∧Below w.heap.size w wr) (fun _ i _=>l.length-(intOf i).toNat)
 case atStart=>exact⟨0,Nat.zero_le _,rfl,rfl,rfl,Qb _ _⟩
 case round=>
  obtain⟨k,hk,rfl,rfl,hr,hb⟩:=hrel;have Hr:=Qh hr;clear hr;have dz:Ok I wr:=hw.below (Qn _) hb;have tJ:xI (l.take k)≤1300*k:=by
   have h1:=X0x (l:=l.take k) fun x hx=>by
    have:=(Xqc (QL.O x (List.mem_of_mem_take hx)) (by have:=List.any_eq_false.1 Hr.O x hx;simpa using this));exact⟨this.aI,this.qG⟩
   rw[List.length_take]at h1;exact Nat.le_trans h1 (Nat.mul_le_mul_left _ (by omega))
  by_cases hlt:k<l.length
  ·obtain⟨x,ve,b,off,cap',bN,di,⟨c0,c1,c2,c3,c4,c5⟩,h1⟩:=Jc Hv.O dz k hlt;cases di;have uO:=QL.O x (by rw[←bN];exact List.getElem_mem hlt);have y8:=Qh (any_take_succ (p:=nY) hlt bN Hr.O);have nK:=Qh (Yq (p:=nY) hlt bN);have Hwt:=Qh (Xvo hlt bN);have mP:=h1.dh;obtain⟨oe,ce,rfl,_,_,_⟩:=id h1;have H40:=Qh (fun w hw=>Xoa I x _ h1 uO.aH w hw);have Li:=Qh h1;have OX:=Qh uO;clear bN h1 uO Hr;have xA:=hb.alloc hb.size (.cells #[.int .i64 x.num,.int .i64 x.aT,S x.bP,.slice oe x.aH.length ce,S x.aI,S x.sl] 35);by_cases NQ:30<x.aH.length
   ·have d30:decide ((30:Int)<(x.aH.length:Int))=true:=Qt (by omega);have Hn:=Qh (show lu l=1 by rw[lu,vF.O,nK.O (by rw[nY,Qt NQ];rfl)];rfl);clear NQ y8 nK;go_wp2;go_ret;exact⟨bT Hn.O.symm,xA⟩
   have d30:decide ((30:Int)<(x.aH.length:Int))=false:=Qf (by omega);go_wp2_with fail
   refine(H40.O _ (dz.alloc _)).mono ?_;rintro e1 w4 ⟨rfl,aL⟩;have fG:=Qh (wZ (s:=x) rfl aL);have aO:=xA.trans (aL.mono xA.size);have bA:Ok I w4:=(dz.alloc _).below (Qn _) aL;clear aL H40 c0 c1 c2 c3 c4 c5 dz;obtain⟨c0,c1,c2,c3,c4,c5⟩:=fG.O;cases hx0:sJ x;case true=>
    rw[show jl x=1 by rw[jl,hx0];rfl];have Hn:=Qh (show lu l=1 by rw[lu,vF.O,nK.O (by rw[nY,hx0,Bool.or_true])];rfl);clear hx0 y8 nK;go_wp2;go_ret;exact⟨bT Hn.O.symm,aO⟩
   rw[show jl x=0 by rw[jl,hx0];rfl];have p8:nY x=false:=by rw[nY,hx0,Qf NQ];rfl
   have yI:=Qh (y8.O p8);have HG:=Qh (Yo hx0);have fO:=(Yo hx0).2.1;have Ot:xI (l.take (k+1))=xI (l.take k)+(x.aI.length+10*x.aH.length):=Hwt.O;have Hwx:=Qh Ot;generalize xI (l.take k)=n0 at tJ Ot Hwx ⊢;clear hx0 p8 y8 nK Ot;go_wp2_with fail
   go_loopw [39] (fun s39 wq=> ∃j:Nat,j≤x.aH.length∧s39= .int .i64 j∧Below w4.heap.size w4 wq) (fun i _=>x.aH.length-(intOf i).toNat)
   case atStart=>exact⟨0,Nat.zero_le _,rfl,Qb _ _⟩
   case round=>
    obtain⟨j,hj,rfl,AA⟩:=hrel;have gK:Ok I wr:=bA.below (Qn _) AA;by_cases Bi:j<x.aH.length
    ·obtain⟨y,YG,YH,b9,GX,Lj,iB,di,⟨x0,x1,x2,x3,x4,x5,x6⟩,h1,h2⟩:=oG Li.O gK j Bi;cases di;obtain⟨xa,xc,rfl,_,_,_⟩:=id h1;obtain⟨xx,xd,rfl,_,_,_⟩:=id h2;have gL:y∈x.aH:=by rw[←iB];exact List.getElem_mem Bi
     have pY:=Qh (fun w hw=>YF I y _ _ h1 h2 (OX.O.aH y gL) w hw);rw[show grE y=0 by rw[grE,HG.O.2.2.2.2 y gL];rfl]at pY;clear iB h1 h2 gL;go_wp2_with fail
     refine(pY.O _ (gK.alloc _)).mono ?_;rintro e1 w6 ⟨rfl,fF⟩;have iT:=(AA.alloc AA.size (.cells #[.int .i64 y.ag,S y.af,.slice xa y.ai.length xc,S y.target,.int .i64 y.size,S y.aj,.slice xx y.ak.length xd] 26)).trans (fF.mono (by have:=AA.size;simp;omega));clear fF x0 x1 x2 x3 x4 x5 x6 pY;go_wp2;go_roundw;case rel=>exact⟨j+1,by omega,by go_num,iT⟩
     case measure=>simp[intOf];omega
    ·go_wp2;go_roundw;case rel=>exact⟨k+1,by omega,by go_num,by rw[Hwx.O];go_num,yI.O,aO.trans (AA.mono aO.size)⟩
     case measure=>simp[intOf];omega
  ·have aG:l.take k=l:=List.take_of_length_le (by omega);rw[aG]at Hr tJ ⊢;have QM:=Qh (show vD l=decide (20000<xI l) by rw[vF.O,Hr.O];rfl);clear aG Hr vF;by_cases h2:20000<xI l
   ·have dI:decide ((20000:Int)<((xI l:Nat):Int))=true:=Qt (by omega);have Hn:=Qh (show lu l=1 by rw[lu,QM.O,Qt h2];rfl);clear h2;go_wp2;go_ret;exact⟨bT Hn.O.symm,hb⟩
   ·have dI:decide ((20000:Int)<((xI l:Nat):Int))=false:=Qf (by omega);have Hn:=Qh (show lu l=0 by rw[lu,QM.O,Qf h2];rfl);clear h2;go_wp2;go_ret;exact⟨bT Hn.O.symm,hb⟩
